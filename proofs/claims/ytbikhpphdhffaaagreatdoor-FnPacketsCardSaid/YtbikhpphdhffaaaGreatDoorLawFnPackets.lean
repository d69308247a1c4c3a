/- The law FnPackets: its text returns true. Condition: none. Printed by a program. -/
import Derived.Test.YtbikhpphdhffaaaGreatDoorPz4
namespace Go.Proofs.YtbikhpphdhffaaaGreatDoor.finFnPackets
open Go.Vc
set_option linter.all false
set_option maxRecDepth 100000
set_option maxHeartbeats 4000000
set_option maxRecDepth 10000 in
set_option maxHeartbeats 4000000 in
theorem laws_FnPackets_ok (v_code : Value) (code : List By) (v_more : Value) (more : List By) (h : Heap) (s_code : Sl h v_code code) (s_more : Sl h v_more more) (hb0 : ∀ y ∈ code, 0 ≤ y.n ∧ y.n ≤ 255) (hb1 : ∀ y ∈ more, 0 ≤ y.n ∧ y.n ≤ 255) (g : Gl h) : Cn f_laws_FnPackets [v_code, v_more] h fun v h' => v = .bool true ∧ Ext h h' := by
  have lt_code := s_code.lt
  have l63_code := s_code.len63
  have lt_more := s_more.lt
  have l63_more := s_more.len63
  refine calls_of r_laws_FnPackets ?_
  refine v_seq ?_
  refine v_ops ?_
  refine s_pure (.bool false) (fun _ q => q) ?_
  refine s_nil ?_
  refine p_seqN ?_
  refine v_seq ?_
  refine v_seq ?_
  refine v_ops ?_
  refine s_pure v_code (fun _ q => q) ?_
  refine s_pure v_more (fun _ q => q) ?_
  refine s_call [v_code, v_more] rfl (laws_big_ok v_code code v_more more _ s_code s_more) ?_
  rintro _ h1 ⟨rfl, eh1⟩
  have E2 := (Ext.refl h).trans eh1
  have z3 := eh1.size
  refine s_nil ?_
  refine p_seqN ?_
  refine v_cond rfl (fun c4 => ?_) (fun c4 => ?_)
  ·
    refine v_seq ?_
    refine v_ops ?_
    refine s_pure (.bool true) (fun _ q => q) ?_
    refine s_nil ?_
    refine p_seqN ?_
    refine v_ret ?_
    refine p_seqR ?_
    refine p_ret [.bool true] (.bool true) (fun _ q => q) rfl ?_
    have ho : true = true := by first | rfl | exact (decide_eq_true rfl).symm | (exfalso; first | omega | exact absurd (jn_eqT (by assumption)) (by assumption) | (simp_all; done))
    exact ⟨by first | (rw [ho]; done) | rfl, E2⟩
  ·
    have hbig : code.length ≤ 1048576 ∧ more.length ≤ 1048576 := by omega
    refine v_skip ?_
    refine p_seqN ?_
    refine v_seq ?_
    refine v_ops ?_
    refine s_pure v_code (fun _ q => q) ?_
    have f5 := (s_code.ext eh1)
    refine s_call [v_code] rfl (spec_DrawSplitMessage_ok v_code code _ f5 (by first | omega | assumption | (simp; done) | (simp; omega)) (by first | omega | assumption | (simp; done) | (simp; omega))) ?_
    rintro _ h10 ⟨g6, g7, g9, r8, rfl, s_r8, fr_r8, qh10, eh10⟩
    have E11 := E2.trans eh10
    have z12 := eh10.size
    have lt_r8 := s_r8.lt
    refine s_pure (.tuple #[.int .i64 g6, r8, .int .i64 g9]) (fun _ q => q) ?_
    refine s_pure (.int .i64 g6) (fun _ q => q) ?_
    refine s_pure r8 (fun _ q => q) ?_
    refine s_pure (.int .i64 g9) (fun _ q => q) ?_
    refine s_pure (.int .i64 g6) (fun _ q => q) ?_
    refine s_pure r8 (fun _ q => q) ?_
    refine s_pure (.int .i64 g9) (fun _ q => q) ?_
    refine s_nil ?_
    refine p_seqN ?_
    refine v_seq ?_
    refine v_ops ?_
    refine s_pure (.int .i64 g6) (fun _ q => q) ?_
    refine s_pure r8 (fun _ q => q) ?_
    refine s_pure (.int .i64 g9) (fun _ q => q) ?_
    refine s_call [.int .i64 g6, r8, .int .i64 g9] rfl (impl_SplitMessage_ok g6 r8 g7 g9 _ s_r8.toSl (by omega)) ?_
    rintro _ h14 ⟨r13, qr13, rfl, s_r13, dq_r13, eh14⟩
    have E15 := E11.trans eh14
    have z16 := eh14.size
    have lt_r13 := s_r13.lt
    have fr_r13 := s_r13.fr
    refine s_pure (.tuple #[r13, .bool ((smOut g6 g7 g9).2)]) (fun _ q => q) ?_
    refine s_pure r13 (fun _ q => q) ?_
    refine s_pure (.bool ((smOut g6 g7 g9).2)) (fun _ q => q) ?_
    refine s_pure r13 (fun _ q => q) ?_
    refine s_pure (.bool ((smOut g6 g7 g9).2)) (fun _ q => q) ?_
    refine s_nil ?_
    refine p_seqN ?_
    refine v_seq ?_
    refine v_ops ?_
    refine s_pure (.int .i64 g6) (fun _ q => q) ?_
    refine s_pure r8 (fun _ q => q) ?_
    refine s_pure (.int .i64 g9) (fun _ q => q) ?_
    have f17 := (s_r8.ext eh14)
    refine s_call [.int .i64 g6, r8, .int .i64 g9] rfl (spec_SplitMessage_ok g6 r8 g7 g9 _ f17.toSl (by omega)) ?_
    rintro _ h19 ⟨r18, qr18, rfl, s_r18, dq_r18, eh19⟩
    have E20 := E15.trans eh19
    have z21 := eh19.size
    have lt_r18 := s_r18.lt
    have fr_r18 := s_r18.fr
    refine s_pure (.tuple #[r18, .bool ((smOut g6 g7 g9).2)]) (fun _ q => q) ?_
    refine s_pure r18 (fun _ q => q) ?_
    refine s_pure (.bool ((smOut g6 g7 g9).2)) (fun _ q => q) ?_
    refine s_pure r18 (fun _ q => q) ?_
    refine s_pure (.bool ((smOut g6 g7 g9).2)) (fun _ q => q) ?_
    refine s_nil ?_
    refine p_seqN ?_
    refine v_seqM1 [(1, v_more), (5, .int .i64 g6), (6, r8), (8, r13), (9, .bool ((smOut g6 g7 g9).2)), (10, r18)] (fun R23 h24 eh24 => ?_) (fun M22 => ?_)
    ·
      have E25 := E20.trans eh24
      have z26 := eh24.size
      refine v_seq ?_
      refine v_seq ?_
      refine v_ops ?_
      refine s_pure (.bool ((smOut g6 g7 g9).2)) (fun _ q => q) ?_
      refine s_nil ?_
      refine p_seqN ?_
      refine v_cond rfl (fun c27 => ?_) (fun c27 => ?_)
      ·
        have hgood := sm_oks dq_r13 c27
        refine v_seq ?_
        refine v_ops ?_
        refine s_pure (.slice none 0 0) (fun _ q => q) ?_
        refine s_nil ?_
        refine p_seqN ?_
        refine v_seq ?_
        refine v_seq ?_
        refine v_ops ?_
        refine s_pure r13 (fun _ q => q) ?_
        refine s_pure (.int .i64 (qr13.length : Int)) (fun _ q => s_r13.row.lenVC q) ?_
        refine s_pure (.int .i64 0) (fun _ q => q) ?_
        refine s_nil ?_
        refine p_seqN ?_
        refine v_block ?_
        have f29 := ((f17.ext eh19).ext eh24)
        have f30 := ((s_r13.ext eh19).ext eh24)
        have f31 := (s_r18.ext eh24)
        refine v_loop3 (α := Nat) (β := List Pk) (γ := Value) (fun k ts tt => [(1, v_more), (5, .int .i64 g6), (6, r8), (8, r13), (10, r18), (12, tt), (76, r13), (77, .int .i64 (qr13.length : Int)), (78, .int .i64 (k : Int))]) (fun k ts tt hh => Ext h hh ∧ SlO hh r8 g7 ∧ DeepO hh r13 qr13 h.size ∧ DeepO hh r18 qr18 h.size ∧ SlO hh tt ts ∧ Fr h.size tt ∧ (∀ b ∈ blks r8, b ∉ blks tt) ∧ (∀ b ∈ fpts r13 qr13, b ∉ blks tt) ∧ (∀ b ∈ fpts r18 qr18, b ∉ blks tt) ∧ k ≤ qr13.length ∧ (∀ p ∈ ts, p ∈ qr13) ∧ ts.length = 2 * k ∧ (∀ p ∈ qr13.take k, p ∈ ts)) (fun k ts tt => qr13.length - k) 0 [] (.slice none 0 0) ⟨rfl, rfl, rfl, rfl, rfl, rfl, rfl, rfl, rfl⟩ ⟨E25, f29, (f30.mono (by omega)), (f31.mono (by omega)), (sl_eq (SlX.nil (α := Pk) true h24) (by simp)), (Fr.nil _), (fun b hb hc => by simp [blks, fpts] at hc), (fun b hb hc => by simp [blks, fpts] at hc), (fun b hb hc => by simp [blks, fpts] at hc), (by exact ⟨by omega, by simp, rfl, by simp⟩)⟩ ?_
        rintro k ts tt R32 h28 ⟨Eh, s_r8, s_r13, s_r18, s_tt, fr_tt, np_r8_tt, np_r13_tt, np_r18_tt, ⟨hk, hsub, hln, hcov⟩⟩
        have zEh := Eh.size
        have f34 := s_code.ext Eh
        have f35 := s_more.ext Eh
        have ltk_r8 := s_r8.lt
        have ltk_r13 := s_r13.lt
        have ltk_r18 := s_r18.lt
        have lt_tt := s_tt.lt
        have h9l : qr13.length ≤ 9 := by (have q_ := congrArg List.length dq_r13); rw [List.length_map] at q_; rw [q_]; exact sm_nine
        have hl2 := sm_len2 dq_r13 dq_r18
        refine v_seq ?_
        refine v_ops ?_
        refine s_pure (.bool (decide ((k : Int) < (qr13.length : Int)))) (fun _ q => q) ?_
        refine s_nil ?_
        refine p_seqN ?_
        refine v_seq ?_
        refine v_cond rfl (fun c36 => ?_) (fun c36 => ?_)
        ·
          refine v_skip ?_
          refine p_seqN ?_
          refine v_seq ?_
          refine v_block ?_
          refine v_seq ?_
          refine v_ops ?_
          refine s_pure (.int .i64 (k : Int)) (fun _ q => q) ?_
          have hk37 : k < qr13.length := (by first | omega | (simp; omega))
          obtain ⟨x38, hx38⟩ : ∃ x, qr13[k]? = some x := ⟨_, List.getElem?_eq_getElem hk37⟩
          refine s_pure (.pointer (some ⟨sblk r13, soff r13 + k * 4, none⟩)) (fun _ q => s_r13.row.idx (k := k) rfl hk37 q) ?_
          have s39 := s_r13.insL x38 (List.mem_of_getElem? hx38)
          refine s_load (.agg #[.int .i64 x38.message, .int .i64 x38.part, .int .i64 x38.parts, x38.sv.v]) (fun _ q => s_r13.row.loadN hx38 rfl q) ?_
          refine s_new (fun h41 b40 hbb40 hzb40 eh41 bxb40 => ?_)
          have E42 := Eh.trans eh41
          have z43 := eh41.size
          have lbb40 := bxb40.lt
          refine s_pure (.int .i64 (k : Int)) (fun _ q => q) ?_
          refine s_stBx (.agg #[.int .i64 x38.message, .int .i64 x38.part, .int .i64 x38.parts, x38.sv.v]) [.int .i64 x38.message, .int .i64 x38.part, .int .i64 x38.parts, x38.sv.v] [.int .i64 x38.message, .int .i64 x38.part, .int .i64 x38.parts, x38.sv.v] bxb40 rfl rfl rfl rfl (by simp) (all_cons rfl (all_cons rfl (all_cons rfl (all_cons s39.one1 all_nil)))) rfl (fun h44 mh44 sh44 bxx45 => ?_)
          have E46 := E42.mod mh44 (fun b hb => by simp at hb; omega)
          refine s_nil ?_
          refine p_seqN ?_
          refine v_seq ?_
          refine v_drawF ?_
          refine d_pureT tt (fun _ q => q) ?_
          refine d_pureT r13 (fun _ q => q) ?_
          refine d_pureT r13 (fun _ q => q) ?_
          refine d_pureT (.int .i64 (qr13.length : Int)) (fun _ q => s_r13.row.lenVC q) ?_
          refine d_pureT (.int .i64 ((qr13.length : Int) - 1)) (fun _ q => ArithVC.mk (by omega) q) ?_
          refine d_pureT (.int .i64 (k : Int)) (fun _ q => q) ?_
          refine d_pureT (.int .i64 (((qr13.length : Int) - 1) - (k : Int))) (fun _ q => ArithVC.mk (by omega) q) ?_
          have f47 := ((s_r13.ext eh41).mod mh44 (fun b hb hc => by simp at hc; have := ltk_r13 b hb; have := lt_r13 b hb; omega))
          have hk48 : ((((qr13.length : Int) - 1) - (k : Int))).toNat < qr13.length := (by first | omega | (simp; omega))
          obtain ⟨x49, hx49⟩ : ∃ x, qr13[((((qr13.length : Int) - 1) - (k : Int))).toNat]? = some x := ⟨_, List.getElem?_eq_getElem hk48⟩
          refine d_pureT (.pointer (some ⟨sblk r13, soff r13 + (((((qr13.length : Int) - 1) - (k : Int))).toNat) * 4, none⟩)) (fun _ q => f47.row.idx (k := ((((qr13.length : Int) - 1) - (k : Int))).toNat) (by omega) hk48 q) ?_
          have s50 := f47.insL x49 (List.mem_of_getElem? hx49)
          refine d_loadO (.agg #[.int .i64 x49.message, .int .i64 x49.part, .int .i64 x49.parts, x49.sv.v]) (fun _ q => f47.row.loadN hx49 rfl q) ?_
          refine d_loadO (.agg #[.int .i64 x38.message, .int .i64 x38.part, .int .i64 x38.parts, x38.sv.v]) (fun _ q => bxx45.loadA rfl q) ?_
          refine d_eff ?_
          refine s_row (α := Pk) [(⟨x49.message, x49.part, x49.parts, x49.sv, x49.sig⟩ : Pk), (⟨x38.message, x38.part, x38.parts, x38.sv, x38.sig⟩ : Pk)] (fun _ q => seg_agg rfl rfl (seg_agg rfl rfl (seg_nil q))) rfl (by simp [maxLen]) (fun r51 h52 eh52 zh52 s_r51 fr_r51 => ?_)
          have E53 := E46.trans eh52
          have z54 := eh52.size
          have G55 := eh52
          have lt_r51 := s_r51.lt
          refine s_nil ⟨fun hl => (by cases hl), ?_⟩
          refine d_eff ?_
          have f56 := (((s_tt.ext eh41).mod mh44 (fun b hb hc => by simp at hc; have := lt_tt b hb; omega)).ext eh52)
          refine s_app f56 s_r51 rfl rfl rfl (by simp [maxLen]; omega) (by simp; omega) (fun r57 h58 mh58 zh58 s_r57 ab_r57 => ?_)
          have E59 := E53.mod mh58 (fun b hb => by have := fr_tt b hb; omega)
          have fr_r57 := fr_tt.app ab_r57 (by omega)
          have np60 : ∀ b ∈ blks r8, b ∉ blks r57 := fun b hb hc => (ab_r57 _ hc).elim ((np_r8_tt : ∀ b ∈ blks r8, b ∉ blks tt) b hb) (fun hc => by have := ltk_r8 b hb; omega)
          have np61 : ∀ b ∈ blks r8, b ∉ blks r57 := fun b hb hc => (ab_r57 _ hc).elim ((np_r8_tt : ∀ b ∈ blks r8, b ∉ blks tt) b hb) (fun hc => by have := ltk_r8 b hb; omega)
          have np62 : ∀ b ∈ fpts r13 qr13, b ∉ blks r57 := fun b hb hc => (ab_r57 _ hc).elim ((np_r13_tt : ∀ b ∈ fpts r13 qr13, b ∉ blks tt) b hb) (fun hc => by have := ltk_r13 b hb; omega)
          have np63 : ∀ b ∈ fpts r13 qr13, b ∉ blks r57 := fun b hb hc => (ab_r57 _ hc).elim ((np_r13_tt : ∀ b ∈ fpts r13 qr13, b ∉ blks tt) b hb) (fun hc => by have := ltk_r13 b hb; omega)
          have np64 : ∀ b ∈ fpts r18 qr18, b ∉ blks r57 := fun b hb hc => (ab_r57 _ hc).elim ((np_r18_tt : ∀ b ∈ fpts r18 qr18, b ∉ blks tt) b hb) (fun hc => by have := ltk_r18 b hb; omega)
          have np65 : ∀ b ∈ fpts r18 qr18, b ∉ blks r57 := fun b hb hc => (ab_r57 _ hc).elim ((np_r18_tt : ∀ b ∈ fpts r18 qr18, b ∉ blks tt) b hb) (fun hc => by have := ltk_r18 b hb; omega)
          have np66 : b40 ∉ blks r57 := fun hc => (ab_r57 _ hc).elim (fun hc => by have := lt_tt _ hc; omega) (fun hc => by omega)
          have np67 : ∀ b ∈ blks r51, b ∉ blks r57 := fun b hb hc => (ab_r57 _ hc).elim (((fun b hb hc => by have := fr_r51 b hb; have := lt_tt b hc; omega) : ∀ b ∈ blks r51, b ∉ blks tt) b hb) (fun hc => by have := lt_r51 b hb; omega)
          have lt_r57 := s_r57.lt
          refine s_nil ⟨fun hl => (by cases hl), ?_⟩
          refine d_pureT r57 (fun _ q => q) ?_
          refine d_done ?_
          refine p_seqN ?_
          refine v_seq ?_
          refine v_ops ?_
          have f68 := ((bxx45.ext eh52).mod mh58 (fun hc => by have := lt_tt _ hc; omega))
          refine s_load (.agg #[.int .i64 x38.message, .int .i64 x38.part, .int .i64 x38.parts, x38.sv.v]) (fun _ q => f68.loadA rfl q) ?_
          have f69 := ((((s39.ext eh41).mod mh44 (fun b hb hc => by simp at hc; have := (fun b hb => ltk_r13 b (mem_fpts.2 (.inr ⟨x38, List.mem_of_getElem? hx38, hb⟩))) b hb; omega)).ext eh52).mod mh58 (fun b hb hc => np_r13_tt b (mem_fpts.2 (.inr ⟨x38, List.mem_of_getElem? hx38, hb⟩)) hc))
          refine s_call [.agg #[.int .i64 x38.message, .int .i64 x38.part, .int .i64 x38.parts, x38.sv.v]] rfl (impl_PacketText_ok (Pk.p x38) x38.sv.v _ f69 (g.ext E59)) ?_
          rintro _ h70 ⟨rfl, eh70⟩
          have E71 := E59.trans eh70
          have z72 := eh70.size
          have pt73 : PkOk (Pk.p x38) := hgood _ (List.mem_of_getElem? hx38)
          have pt73a := pt_ok pt73
          have pt73b := pt_back pt73
          refine s_pure (.tuple #[.string ((ptOut (Pk.p x38)).1), .bool ((ptOut (Pk.p x38)).2)]) (fun _ q => q) ?_
          refine s_pure (.string ((ptOut (Pk.p x38)).1)) (fun _ q => q) ?_
          refine s_pure (.bool ((ptOut (Pk.p x38)).2)) (fun _ q => q) ?_
          refine s_pure (.string ((ptOut (Pk.p x38)).1)) (fun _ q => q) ?_
          refine s_pure (.bool ((ptOut (Pk.p x38)).2)) (fun _ q => q) ?_
          refine s_nil ?_
          refine p_seqN ?_
          refine v_seq ?_
          refine v_ops ?_
          refine s_pure (.string ((ptOut (Pk.p x38)).1)) (fun _ q => q) ?_
          refine s_call [.string ((ptOut (Pk.p x38)).1)] rfl (impl_ParsePacket_ok ((ptOut (Pk.p x38)).1) _ (by first | (simp [maxLen]; omega) | exact Nat.le_trans (pt_size _) (by simp [maxLen])) (g.ext E71) (by first | omega | exact Nat.le_trans (pt_size _) (by decide))) ?_
          rintro _ h75 ⟨r74, rfl, s_r74, fr_r74, eh75⟩
          have E76 := E71.trans eh75
          have z77 := eh75.size
          have lt_r74 := s_r74.lt
          refine s_pure (.tuple #[.agg #[.int .i64 (((ppOut ((ptOut (Pk.p x38)).1).data.toList).1).message), .int .i64 (((ppOut ((ptOut (Pk.p x38)).1).data.toList).1).part), .int .i64 (((ppOut ((ptOut (Pk.p x38)).1).data.toList).1).parts), r74], .bool ((ppOut ((ptOut (Pk.p x38)).1).data.toList).2)]) (fun _ q => q) ?_
          refine s_pure (.agg #[.int .i64 (((ppOut ((ptOut (Pk.p x38)).1).data.toList).1).message), .int .i64 (((ppOut ((ptOut (Pk.p x38)).1).data.toList).1).part), .int .i64 (((ppOut ((ptOut (Pk.p x38)).1).data.toList).1).parts), r74]) (fun _ q => q) ?_
          refine s_pure (.bool ((ppOut ((ptOut (Pk.p x38)).1).data.toList).2)) (fun _ q => q) ?_
          refine s_new (fun h79 b78 hbb78 hzb78 eh79 bxb78 => ?_)
          have E80 := E76.trans eh79
          have z81 := eh79.size
          have lbb78 := bxb78.lt
          refine s_stBx (.agg #[.int .i64 (((ppOut ((ptOut (Pk.p x38)).1).data.toList).1).message), .int .i64 (((ppOut ((ptOut (Pk.p x38)).1).data.toList).1).part), .int .i64 (((ppOut ((ptOut (Pk.p x38)).1).data.toList).1).parts), r74]) [.int .i64 (((ppOut ((ptOut (Pk.p x38)).1).data.toList).1).message), .int .i64 (((ppOut ((ptOut (Pk.p x38)).1).data.toList).1).part), .int .i64 (((ppOut ((ptOut (Pk.p x38)).1).data.toList).1).parts), r74] [.int .i64 (((ppOut ((ptOut (Pk.p x38)).1).data.toList).1).message), .int .i64 (((ppOut ((ptOut (Pk.p x38)).1).data.toList).1).part), .int .i64 (((ppOut ((ptOut (Pk.p x38)).1).data.toList).1).parts), r74] bxb78 rfl rfl rfl rfl (by simp) (all_cons rfl (all_cons rfl (all_cons rfl (all_cons s_r74.one1 all_nil)))) rfl (fun h82 mh82 sh82 bxx83 => ?_)
          have E84 := E80.mod mh82 (fun b hb => by simp at hb; omega)
          refine s_pure (.bool ((ppOut ((ptOut (Pk.p x38)).1).data.toList).2)) (fun _ q => q) ?_
          refine s_nil ?_
          refine p_seqN ?_
          refine v_seq ?_
          refine v_drawF ?_
          refine d_pureT (.bool ((ptOut (Pk.p x38)).2)) (fun _ q => q) ?_
          refine d_pureT (.bool (!(ptOut (Pk.p x38)).2)) (fun _ q => q) ?_
          refine d_pureT (.bool (!(ptOut (Pk.p x38)).2)) (fun _ q => q) ?_
          refine d_splitN rfl (by first | assumption | omega | (simp [pt73a]; done) | (simp [pt73b]; done) | (simp [pt73]; done) | (simp; done) | (simp; omega) | simp_all) ?_
          refine d_runT rfl ?_
          refine d_pureT (.bool ((ppOut ((ptOut (Pk.p x38)).1).data.toList).2)) (fun _ q => q) ?_
          refine d_runT rfl ?_
          refine d_pureT (.bool (!(ppOut ((ptOut (Pk.p x38)).1).data.toList).2)) (fun _ q => q) ?_
          refine d_pureT (.bool (!(ppOut ((ptOut (Pk.p x38)).1).data.toList).2)) (fun _ q => q) ?_
          refine d_pureT (.bool (!(ppOut ((ptOut (Pk.p x38)).1).data.toList).2)) (fun _ q => q) ?_
          refine d_splitN rfl (by first | assumption | omega | (simp [pt73a]; done) | (simp [pt73b]; done) | (simp [pt73]; done) | (simp; done) | (simp; omega) | simp_all) ?_
          refine d_runT rfl ?_
          refine d_pureT r18 (fun _ q => q) ?_
          refine d_runT rfl ?_
          refine d_pureT (.int .i64 (k : Int)) (fun _ q => q) ?_
          refine d_runT rfl ?_
          have f85 := ((((((((s_r18.ext eh41).mod mh44 (fun b hb hc => by simp at hc; have := ltk_r18 b hb; have := lt_r18 b hb; omega)).ext eh52).mod mh58 np_r18_tt).ext eh70).ext eh75).ext eh79).mod mh82 (fun b hb hc => by simp at hc; have := ltk_r18 b hb; have := lt_r18 b hb; omega))
          have hk86 : k < qr18.length := (by first | omega | (simp; omega))
          obtain ⟨x87, hx87⟩ : ∃ x, qr18[k]? = some x := ⟨_, List.getElem?_eq_getElem hk86⟩
          refine d_pureT (.pointer (some ⟨sblk r18, soff r18 + k * 4, none⟩)) (fun _ q => f85.row.idx (k := k) rfl hk86 q) ?_
          refine d_runO rfl ?_
          refine d_loadO (.agg #[.int .i64 (((ppOut ((ptOut (Pk.p x38)).1).data.toList).1).message), .int .i64 (((ppOut ((ptOut (Pk.p x38)).1).data.toList).1).part), .int .i64 (((ppOut ((ptOut (Pk.p x38)).1).data.toList).1).parts), r74]) (fun _ q => bxx83.loadA rfl q) ?_
          refine d_runO rfl ?_
          have s88 := f85.insL x87 (List.mem_of_getElem? hx87)
          refine d_loadO (.agg #[.int .i64 x87.message, .int .i64 x87.part, .int .i64 x87.parts, x87.sv.v]) (fun _ q => f85.row.loadN hx87 rfl q) ?_
          refine d_runO rfl ?_
          refine d_eff ?_
          have f89 := ((s_r74.ext eh79).mod mh82 (fun b hb hc => by simp at hc; have := lt_r74 b hb; omega))
          refine s_call [.agg #[.int .i64 (((ppOut ((ptOut (Pk.p x38)).1).data.toList).1).message), .int .i64 (((ppOut ((ptOut (Pk.p x38)).1).data.toList).1).part), .int .i64 (((ppOut ((ptOut (Pk.p x38)).1).data.toList).1).parts), r74], .agg #[.int .i64 x87.message, .int .i64 x87.part, .int .i64 x87.parts, x87.sv.v]] rfl (laws_pSamePacket_ok ((ppOut ((ptOut (Pk.p x38)).1).data.toList).1) r74 (Pk.p x87) x87.sv.v _ f89.toSl s88) ?_
          rintro _ h90 ⟨rfl, eh90⟩
          have E91 := E84.trans eh90
          have z92 := eh90.size
          have G93 := eh90
          have sb94 : (ppOut ((ptOut (Pk.p x38)).1).data.toList).1 = Pk.p x87 := (congrArg Prod.fst (pt_back (hgood _ (List.mem_of_getElem? hx38)))).trans (sm_both dq_r13 dq_r18 hx38 hx87)
          refine s_nil ⟨fun hl => (by cases hl), ?_⟩
          refine d_runT rfl ?_
          refine d_pureT (.bool (!(decide (((ppOut ((ptOut (Pk.p x38)).1).data.toList).1) = (Pk.p x87))))) (fun _ q => q) ?_
          refine d_pureT (.bool (!(decide (((ppOut ((ptOut (Pk.p x38)).1).data.toList).1) = (Pk.p x87))))) (fun _ q => q) ?_
          refine d_pureT (.bool (!(decide (((ppOut ((ptOut (Pk.p x38)).1).data.toList).1) = (Pk.p x87))))) (fun _ q => q) ?_
          refine d_splitN rfl (by first | assumption | omega | (simp [pt73a]; done) | (simp [pt73b]; done) | (simp [pt73]; done) | (simp [sb94]; done) | (simp; done) | (simp; omega) | simp_all) ?_
          refine d_runO rfl ?_
          have f95 := (((((f68.ext eh70).ext eh75).ext eh79).mod mh82 (by simp; omega)).ext eh90)
          refine d_loadO (.agg #[.int .i64 x38.message, .int .i64 x38.part, .int .i64 x38.parts, x38.sv.v]) (fun _ q => f95.loadA rfl q) ?_
          refine d_runO rfl ?_
          refine d_eff ?_
          have f96 := (((((f69.ext eh70).ext eh75).ext eh79).mod mh82 (fun b hb hc => by simp at hc; have := (fun b hb => ltk_r13 b (mem_fpts.2 (.inr ⟨x38, List.mem_of_getElem? hx38, hb⟩))) b hb; omega)).ext eh90)
          refine s_call [.agg #[.int .i64 x38.message, .int .i64 x38.part, .int .i64 x38.parts, x38.sv.v]] rfl (impl_IsPacket_ok (Pk.p x38) x38.sv.v _ f96) ?_
          rintro _ h97 ⟨rfl, eh97⟩
          have E98 := E91.trans eh97
          have z99 := eh97.size
          have G100 := G93.trans eh97
          refine s_nil ⟨fun hl => (by cases hl), ?_⟩
          refine d_runT rfl ?_
          refine d_pureT (.bool (!decide (PkOk (Pk.p x38)))) (fun _ q => q) ?_
          refine d_pureT (.bool (!decide (PkOk (Pk.p x38)))) (fun _ q => q) ?_
          refine d_done ?_
          refine p_seqN ?_
          refine v_condN rfl (by first | assumption | omega | (simp [pt73a]; done) | (simp [pt73b]; done) | (simp [pt73]; done) | (simp [sb94]; done) | (simp; done) | (simp; omega) | simp_all) ?_
          refine v_skip ?_
          refine p_blkN ?_
          refine p_seqN ?_
          refine v_ops ?_
          refine s_pure (.int .i64 ((k : Int) + 1)) (fun _ q => ArithVC.mk (by omega) q) ?_
          refine s_pure (.int .i64 ((k : Int) + 1)) (fun _ q => q) ?_
          refine s_nil ?_
          have f101 := ((((((((((s_r8.ext eh41).mod mh44 (fun b hb hc => by simp at hc; have := ltk_r8 b hb; have := lt_r8 b hb; omega)).ext eh52).mod mh58 np_r8_tt).ext eh70).ext eh75).ext eh79).mod mh82 (fun b hb hc => by simp at hc; have := ltk_r8 b hb; have := lt_r8 b hb; omega)).ext eh90).ext eh97)
          have f102 := ((((((((f47.ext eh52).mod mh58 np_r13_tt).ext eh70).ext eh75).ext eh79).mod mh82 (fun b hb hc => by simp at hc; have := ltk_r13 b hb; have := lt_r13 b hb; omega)).ext eh90).ext eh97)
          have f103 := ((f85.ext eh90).ext eh97)
          have f104 := ((((((s_r57.ext eh70).ext eh75).ext eh79).mod mh82 (fun b hb hc => by simp at hc; have := lt_r57 b hb; omega)).ext eh90).ext eh97)
          exact p_lpN ⟨k + 1, (ts ++ [(⟨x49.message, x49.part, x49.parts, x49.sv, x49.sig⟩ : Pk), (⟨x38.message, x38.part, x38.parts, x38.sv, x38.sig⟩ : Pk)]), r57, ⟨rfl, rfl, rfl, rfl, rfl, rfl, rfl, rfl, rfl⟩, ⟨E98, f101, (f102.mono (by omega)), (f103.mono (by omega)), (sl_eq f104 (by simp)), (fr_r57.mono (by omega)), np61, np63, np65, (by exact ⟨by omega, (tn_step hsub hln hcov (List.mem_of_getElem? (by assumption)) (by assumption)).1, (tn_step hsub hln hcov (List.mem_of_getElem? (by assumption)) (by assumption)).2.1, (tn_step hsub hln hcov (List.mem_of_getElem? (by assumption)) (by assumption)).2.2⟩)⟩, by omega⟩
        ·
          refine v_exit ?_
          refine p_seqX ?_
          refine p_lpX ?_
          refine p_blkX ?_
          refine p_seqN ?_
          refine v_seq ?_
          refine v_ops ?_
          refine s_pure tt (fun _ q => q) ?_
          refine s_pure (.int .i64 g6) (fun _ q => q) ?_
          refine s_call [tt, .int .i64 g6] rfl (impl_JoinMessage_ok tt ts (ts.map Pk.p) g6 _ s_tt.toSl (fun p hp => s_r13.insL p (hsub p hp)) rfl) ?_
          rintro _ h106 ⟨r105, rfl, s_r105, fr_r105, eh106⟩
          have E107 := Eh.trans eh106
          have z108 := eh106.size
          have lt_r105 := s_r105.lt
          obtain ⟨tn109a, tn109b⟩ := tn_end dq_r13 c27 hsub hln hk hcov (by assumption)
          refine s_pure (.tuple #[r105, .bool ((jnOut (ts.map Pk.p) g6).2)]) (fun _ q => q) ?_
          refine s_pure r105 (fun _ q => q) ?_
          refine s_pure (.bool ((jnOut (ts.map Pk.p) g6).2)) (fun _ q => q) ?_
          refine s_pure r105 (fun _ q => q) ?_
          refine s_pure (.bool ((jnOut (ts.map Pk.p) g6).2)) (fun _ q => q) ?_
          refine s_nil ?_
          refine p_seqN ?_
          refine v_seq ?_
          refine v_ops ?_
          refine s_pure tt (fun _ q => q) ?_
          refine s_pure (.int .i64 g6) (fun _ q => q) ?_
          have f110 := (s_tt.ext eh106)
          have f111 := (s_r13.ext eh106)
          refine s_call [tt, .int .i64 g6] rfl (impl_MissingParts_ok tt ts (ts.map Pk.p) g6 _ f110.toSl (fun p hp => f111.insL p (hsub p hp)) rfl) ?_
          rintro _ h113 ⟨r112, rfl, s_r112, fr_r112, eh113⟩
          have E114 := E107.trans eh113
          have z115 := eh113.size
          have lt_r112 := s_r112.lt
          refine s_pure (.tuple #[r112, .bool ((msOut (ts.map Pk.p) g6).2)]) (fun _ q => q) ?_
          refine s_pure r112 (fun _ q => q) ?_
          refine s_pure (.bool ((msOut (ts.map Pk.p) g6).2)) (fun _ q => q) ?_
          refine s_pure r112 (fun _ q => q) ?_
          refine s_pure (.bool ((msOut (ts.map Pk.p) g6).2)) (fun _ q => q) ?_
          refine s_nil ?_
          refine p_seqN ?_
          refine v_seq ?_
          refine v_ops ?_
          refine s_pure (.bool ((jnOut (ts.map Pk.p) g6).2)) (fun _ q => q) ?_
          refine s_pure (.bool (!(jnOut (ts.map Pk.p) g6).2)) (fun _ q => q) ?_
          refine s_pure (.bool (!(jnOut (ts.map Pk.p) g6).2)) (fun _ q => q) ?_
          refine s_splitN rfl (by first | assumption | omega | (simp [tn109a]; done) | (simp [tn109a]; done) | (simp [tn109b]; done) | (simp [tn109b]; done) | (simp; done) | (simp; omega) | simp_all) ?_
          refine s_run rfl ?_
          refine s_pure r105 (fun _ q => q) ?_
          refine s_run rfl ?_
          refine s_pure r8 (fun _ q => q) ?_
          refine s_run rfl ?_
          have f117 := (s_r105.ext eh113)
          have f118 := ((s_r8.ext eh106).ext eh113)
          refine s_call [r105, r8] rfl (laws_sameInts_ok r105 ((jnOut (ts.map Pk.p) g6).1) r8 g7 _ f117.toSl f118.toSl) ?_
          rintro _ h116 ⟨rfl, eh116⟩
          have E119 := E114.trans eh116
          have z120 := eh116.size
          refine s_run rfl ?_
          refine s_pure (.bool (!(decide (((jnOut (ts.map Pk.p) g6).1) = g7)))) (fun _ q => q) ?_
          refine s_pure (.bool (!(decide (((jnOut (ts.map Pk.p) g6).1) = g7)))) (fun _ q => q) ?_
          refine s_pure (.bool (!(decide (((jnOut (ts.map Pk.p) g6).1) = g7)))) (fun _ q => q) ?_
          refine s_splitN rfl (by first | assumption | omega | (simp [tn109a]; done) | (simp [tn109a]; done) | (simp [tn109b]; done) | (simp [tn109b]; done) | (simp; done) | (simp; omega) | simp_all) ?_
          refine s_run rfl ?_
          refine s_pure (.bool ((msOut (ts.map Pk.p) g6).2)) (fun _ q => q) ?_
          refine s_run rfl ?_
          refine s_pure (.bool (!(msOut (ts.map Pk.p) g6).2)) (fun _ q => q) ?_
          refine s_pure (.bool (!(msOut (ts.map Pk.p) g6).2)) (fun _ q => q) ?_
          refine s_pure (.bool (!(msOut (ts.map Pk.p) g6).2)) (fun _ q => q) ?_
          refine s_splitN rfl (by first | assumption | omega | (simp [tn109a]; done) | (simp [tn109a]; done) | (simp [tn109b]; done) | (simp [tn109b]; done) | (simp; done) | (simp; omega) | simp_all) ?_
          refine s_run rfl ?_
          refine s_pure r112 (fun _ q => q) ?_
          refine s_run rfl ?_
          refine s_pure (.int .i64 (((msOut (ts.map Pk.p) g6).1).length : Int)) (fun _ q => s_r112.lenVC q) ?_
          refine s_run rfl ?_
          refine s_pure (.bool (decide ((((msOut (ts.map Pk.p) g6).1).length : Int) > 0))) (fun _ q => q) ?_
          refine s_pure (.bool (decide ((((msOut (ts.map Pk.p) g6).1).length : Int) > 0))) (fun _ q => q) ?_
          refine s_nil ?_
          refine p_seqN ?_
          refine v_condN rfl (by first | assumption | omega | (simp [tn109a]; done) | (simp [tn109a]; done) | (simp [tn109b]; done) | (simp [tn109b]; done) | (simp; done) | (simp; omega) | simp_all) ?_
          refine v_skip ?_
          refine p_seqN ?_
          refine v_seq ?_
          refine v_ops ?_
          refine s_pure v_more (fun _ q => q) ?_
          have f121 := (((f35.ext eh106).ext eh113).ext eh116)
          refine s_call [v_more] rfl (spec_DrawJoinMessage_ok v_more more _ f121 (by first | omega | assumption | (simp; done) | (simp; omega)) (by first | omega | assumption | (simp; done) | (simp; omega))) ?_
          rintro _ h125 ⟨g122, g124, r123, rfl, s_r123, qh125, eh125⟩
          have E126 := E119.trans eh125
          have z127 := eh125.size
          have lt_r123 := s_r123.lt
          have fr_r123 := s_r123.fr
          refine s_pure (.tuple #[r123, .int .i64 g124]) (fun _ q => q) ?_
          refine s_pure r123 (fun _ q => q) ?_
          refine s_pure (.int .i64 g124) (fun _ q => q) ?_
          refine s_pure r123 (fun _ q => q) ?_
          refine s_pure (.int .i64 g124) (fun _ q => q) ?_
          refine s_nil ?_
          refine p_seqN ?_
          refine v_seq ?_
          refine v_ops ?_
          refine s_pure r123 (fun _ q => q) ?_
          refine s_pure (.int .i64 g124) (fun _ q => q) ?_
          refine s_call [r123, .int .i64 g124] rfl (impl_JoinMessage_ok r123 g122 (g122.map Pk.p) g124 _ s_r123.row.toSl s_r123.insL rfl) ?_
          rintro _ h129 ⟨r128, rfl, s_r128, fr_r128, eh129⟩
          have E130 := E126.trans eh129
          have z131 := eh129.size
          have lt_r128 := s_r128.lt
          have ji132 := jn_iff (g122.map Pk.p) g124
          refine s_pure (.tuple #[r128, .bool ((jnOut (g122.map Pk.p) g124).2)]) (fun _ q => q) ?_
          refine s_pure r128 (fun _ q => q) ?_
          refine s_pure (.bool ((jnOut (g122.map Pk.p) g124).2)) (fun _ q => q) ?_
          refine s_pure r128 (fun _ q => q) ?_
          refine s_pure (.bool ((jnOut (g122.map Pk.p) g124).2)) (fun _ q => q) ?_
          refine s_nil ?_
          refine p_seqN ?_
          refine v_seq ?_
          refine v_ops ?_
          refine s_pure r123 (fun _ q => q) ?_
          refine s_pure (.int .i64 g124) (fun _ q => q) ?_
          have f133 := (s_r123.ext eh129)
          refine s_call [r123, .int .i64 g124] rfl (spec_JoinMessage_ok r123 g122 (g122.map Pk.p) g124 _ f133.row.toSl f133.insL rfl) ?_
          rintro _ h135 ⟨r134, rfl, s_r134, fr_r134, eh135⟩
          have E136 := E130.trans eh135
          have z137 := eh135.size
          have lt_r134 := s_r134.lt
          refine s_pure (.tuple #[r134, .bool ((jnOut (g122.map Pk.p) g124).2)]) (fun _ q => q) ?_
          refine s_pure r134 (fun _ q => q) ?_
          refine s_pure (.bool ((jnOut (g122.map Pk.p) g124).2)) (fun _ q => q) ?_
          refine s_pure r134 (fun _ q => q) ?_
          refine s_pure (.bool ((jnOut (g122.map Pk.p) g124).2)) (fun _ q => q) ?_
          refine s_nil ?_
          refine p_seqN ?_
          refine v_seq ?_
          refine v_ops ?_
          refine s_pure r123 (fun _ q => q) ?_
          refine s_pure (.int .i64 g124) (fun _ q => q) ?_
          have f138 := (f133.ext eh135)
          refine s_call [r123, .int .i64 g124] rfl (impl_MissingParts_ok r123 g122 (g122.map Pk.p) g124 _ f138.row.toSl f138.insL rfl) ?_
          rintro _ h140 ⟨r139, rfl, s_r139, fr_r139, eh140⟩
          have E141 := E136.trans eh140
          have z142 := eh140.size
          have lt_r139 := s_r139.lt
          refine s_pure (.tuple #[r139, .bool ((msOut (g122.map Pk.p) g124).2)]) (fun _ q => q) ?_
          refine s_pure r139 (fun _ q => q) ?_
          refine s_pure (.bool ((msOut (g122.map Pk.p) g124).2)) (fun _ q => q) ?_
          refine s_pure r139 (fun _ q => q) ?_
          refine s_pure (.bool ((msOut (g122.map Pk.p) g124).2)) (fun _ q => q) ?_
          refine s_nil ?_
          refine p_seqN ?_
          refine v_seq ?_
          refine v_ops ?_
          refine s_pure r123 (fun _ q => q) ?_
          refine s_pure (.int .i64 g124) (fun _ q => q) ?_
          have f143 := (f138.ext eh140)
          refine s_call [r123, .int .i64 g124] rfl (spec_MissingParts_ok r123 g122 (g122.map Pk.p) g124 _ f143.row.toSl f143.insL rfl) ?_
          rintro _ h145 ⟨r144, rfl, s_r144, fr_r144, eh145⟩
          have E146 := E141.trans eh145
          have z147 := eh145.size
          have lt_r144 := s_r144.lt
          refine s_pure (.tuple #[r144, .bool ((msOut (g122.map Pk.p) g124).2)]) (fun _ q => q) ?_
          refine s_pure r144 (fun _ q => q) ?_
          refine s_pure (.bool ((msOut (g122.map Pk.p) g124).2)) (fun _ q => q) ?_
          refine s_pure r144 (fun _ q => q) ?_
          refine s_pure (.bool ((msOut (g122.map Pk.p) g124).2)) (fun _ q => q) ?_
          refine s_nil ?_
          refine p_seqN ?_
          refine v_seqM1 [(1, v_more)] (fun R149 h150 eh150 => ?_) (fun M148 => ?_)
          ·
            have E151 := E146.trans eh150
            have z152 := eh150.size
            refine v_seq ?_
            refine v_ops ?_
            refine s_pure v_more (fun _ q => q) ?_
            have f153 := ((((((f121.ext eh125).ext eh129).ext eh135).ext eh140).ext eh145).ext eh150)
            refine s_call [v_more] rfl (spec_DrawPacketText_ok v_more more _ f153 (by first | omega | assumption | (simp; done) | (simp; omega)) (by first | omega | assumption | (simp; done) | (simp; omega))) ?_
            rintro _ h156 ⟨g154, r155, rfl, s_r155, fr_r155, qh156, eh156⟩
            have E157 := E151.trans eh156
            have z158 := eh156.size
            have lt_r155 := s_r155.lt
            refine s_new (fun h160 b159 hbb159 hzb159 eh160 bxb159 => ?_)
            have E161 := E157.trans eh160
            have z162 := eh160.size
            have lbb159 := bxb159.lt
            refine s_stBx (.agg #[.int .i64 g154.message, .int .i64 g154.part, .int .i64 g154.parts, r155]) [.int .i64 g154.message, .int .i64 g154.part, .int .i64 g154.parts, r155] [.int .i64 g154.message, .int .i64 g154.part, .int .i64 g154.parts, r155] bxb159 rfl rfl rfl rfl (by simp) (all_cons rfl (all_cons rfl (all_cons rfl (all_cons s_r155.one1 all_nil)))) rfl (fun h163 mh163 sh163 bxx164 => ?_)
            have E165 := E161.mod mh163 (fun b hb => by simp at hb; omega)
            refine s_nil ?_
            refine p_seqN ?_
            refine v_seq ?_
            refine v_ops ?_
            refine s_load (.agg #[.int .i64 g154.message, .int .i64 g154.part, .int .i64 g154.parts, r155]) (fun _ q => bxx164.loadA rfl q) ?_
            have f166 := ((s_r155.ext eh160).mod mh163 (fun b hb hc => by simp at hc; have := lt_r155 b hb; omega))
            refine s_call [.agg #[.int .i64 g154.message, .int .i64 g154.part, .int .i64 g154.parts, r155]] rfl (impl_PacketText_ok g154 r155 _ f166.toSl (g.ext E165)) ?_
            rintro _ h167 ⟨rfl, eh167⟩
            have E168 := E165.trans eh167
            have z169 := eh167.size
            have pf170 := pt_flag g154
            refine s_pure (.tuple #[.string ((ptOut g154).1), .bool ((ptOut g154).2)]) (fun _ q => q) ?_
            refine s_pure (.string ((ptOut g154).1)) (fun _ q => q) ?_
            refine s_pure (.bool ((ptOut g154).2)) (fun _ q => q) ?_
            refine s_pure (.string ((ptOut g154).1)) (fun _ q => q) ?_
            refine s_pure (.bool ((ptOut g154).2)) (fun _ q => q) ?_
            refine s_nil ?_
            refine p_seqN ?_
            refine v_seq ?_
            refine v_ops ?_
            have f171 := (bxx164.ext eh167)
            refine s_load (.agg #[.int .i64 g154.message, .int .i64 g154.part, .int .i64 g154.parts, r155]) (fun _ q => f171.loadA rfl q) ?_
            have f172 := (f166.ext eh167)
            refine s_call [.agg #[.int .i64 g154.message, .int .i64 g154.part, .int .i64 g154.parts, r155]] rfl (spec_PacketText_ok g154 r155 _ f172.toSl) ?_
            rintro _ h173 ⟨rfl, eh173⟩
            have E174 := E168.trans eh173
            have z175 := eh173.size
            refine s_pure (.tuple #[.string ((ptOut g154).1), .bool ((ptOut g154).2)]) (fun _ q => q) ?_
            refine s_pure (.string ((ptOut g154).1)) (fun _ q => q) ?_
            refine s_pure (.bool ((ptOut g154).2)) (fun _ q => q) ?_
            refine s_pure (.string ((ptOut g154).1)) (fun _ q => q) ?_
            refine s_pure (.bool ((ptOut g154).2)) (fun _ q => q) ?_
            refine s_nil ?_
            refine p_seqN ?_
            refine v_seq ?_
            refine v_ops ?_
            refine s_pure v_more (fun _ q => q) ?_
            have f176 := (((((f153.ext eh156).ext eh160).mod mh163 (fun b hb hc => by simp at hc; have := lt_more b hb; omega)).ext eh167).ext eh173)
            refine s_call [v_more] rfl (spec_DrawParsePacket_ok v_more more _ f176 (by first | omega | assumption | (simp; done) | (simp; omega)) (by first | omega | assumption | (simp; done) | (simp; omega))) ?_
            rintro _ h178 ⟨g177, rfl, qh178, eh178⟩
            have E179 := E174.trans eh178
            have z180 := eh178.size
            refine s_pure (.string g177) (fun _ q => q) ?_
            refine s_nil ?_
            refine p_seqN ?_
            refine v_seq ?_
            refine v_ops ?_
            refine s_pure (.string g177) (fun _ q => q) ?_
            refine s_call [.string g177] rfl (impl_ParsePacket_ok g177 _ (by first | (simp [maxLen]; omega) | exact Nat.le_trans (pt_size _) (by simp [maxLen])) (g.ext E179) (by first | omega | exact Nat.le_trans (pt_size _) (by decide))) ?_
            rintro _ h182 ⟨r181, rfl, s_r181, fr_r181, eh182⟩
            have E183 := E179.trans eh182
            have z184 := eh182.size
            have lt_r181 := s_r181.lt
            refine s_pure (.tuple #[.agg #[.int .i64 (((ppOut g177.data.toList).1).message), .int .i64 (((ppOut g177.data.toList).1).part), .int .i64 (((ppOut g177.data.toList).1).parts), r181], .bool ((ppOut g177.data.toList).2)]) (fun _ q => q) ?_
            refine s_pure (.agg #[.int .i64 (((ppOut g177.data.toList).1).message), .int .i64 (((ppOut g177.data.toList).1).part), .int .i64 (((ppOut g177.data.toList).1).parts), r181]) (fun _ q => q) ?_
            refine s_pure (.bool ((ppOut g177.data.toList).2)) (fun _ q => q) ?_
            refine s_new (fun h186 b185 hbb185 hzb185 eh186 bxb185 => ?_)
            have E187 := E183.trans eh186
            have z188 := eh186.size
            have lbb185 := bxb185.lt
            refine s_stBx (.agg #[.int .i64 (((ppOut g177.data.toList).1).message), .int .i64 (((ppOut g177.data.toList).1).part), .int .i64 (((ppOut g177.data.toList).1).parts), r181]) [.int .i64 (((ppOut g177.data.toList).1).message), .int .i64 (((ppOut g177.data.toList).1).part), .int .i64 (((ppOut g177.data.toList).1).parts), r181] [.int .i64 (((ppOut g177.data.toList).1).message), .int .i64 (((ppOut g177.data.toList).1).part), .int .i64 (((ppOut g177.data.toList).1).parts), r181] bxb185 rfl rfl rfl rfl (by simp) (all_cons rfl (all_cons rfl (all_cons rfl (all_cons s_r181.one1 all_nil)))) rfl (fun h189 mh189 sh189 bxx190 => ?_)
            have E191 := E187.mod mh189 (fun b hb => by simp at hb; omega)
            refine s_pure (.bool ((ppOut g177.data.toList).2)) (fun _ q => q) ?_
            refine s_nil ?_
            refine p_seqN ?_
            refine v_seq ?_
            refine v_ops ?_
            refine s_pure (.string g177) (fun _ q => q) ?_
            refine s_call [.string g177] rfl (spec_ParsePacket_ok g177 _ (by first | (simp [maxLen]; omega) | exact Nat.le_trans (pt_size _) (by simp [maxLen])) (by first | omega | exact Nat.le_trans (pt_size _) (by decide))) ?_
            rintro _ h193 ⟨r192, rfl, s_r192, fr_r192, eh193⟩
            have E194 := E191.trans eh193
            have z195 := eh193.size
            have lt_r192 := s_r192.lt
            refine s_pure (.tuple #[.agg #[.int .i64 (((ppOut g177.data.toList).1).message), .int .i64 (((ppOut g177.data.toList).1).part), .int .i64 (((ppOut g177.data.toList).1).parts), r192], .bool ((ppOut g177.data.toList).2)]) (fun _ q => q) ?_
            refine s_pure (.agg #[.int .i64 (((ppOut g177.data.toList).1).message), .int .i64 (((ppOut g177.data.toList).1).part), .int .i64 (((ppOut g177.data.toList).1).parts), r192]) (fun _ q => q) ?_
            refine s_pure (.bool ((ppOut g177.data.toList).2)) (fun _ q => q) ?_
            refine s_new (fun h197 b196 hbb196 hzb196 eh197 bxb196 => ?_)
            have E198 := E194.trans eh197
            have z199 := eh197.size
            have lbb196 := bxb196.lt
            refine s_stBx (.agg #[.int .i64 (((ppOut g177.data.toList).1).message), .int .i64 (((ppOut g177.data.toList).1).part), .int .i64 (((ppOut g177.data.toList).1).parts), r192]) [.int .i64 (((ppOut g177.data.toList).1).message), .int .i64 (((ppOut g177.data.toList).1).part), .int .i64 (((ppOut g177.data.toList).1).parts), r192] [.int .i64 (((ppOut g177.data.toList).1).message), .int .i64 (((ppOut g177.data.toList).1).part), .int .i64 (((ppOut g177.data.toList).1).parts), r192] bxb196 rfl rfl rfl rfl (by simp) (all_cons rfl (all_cons rfl (all_cons rfl (all_cons s_r192.one1 all_nil)))) rfl (fun h200 mh200 sh200 bxx201 => ?_)
            have E202 := E198.mod mh200 (fun b hb => by simp at hb; omega)
            refine s_pure (.bool ((ppOut g177.data.toList).2)) (fun _ q => q) ?_
            refine s_nil ?_
            refine p_seqN ?_
            refine v_seq ?_
            refine v_ops ?_
            refine s_pure (.bool ((ptOut g154).2)) (fun _ q => q) ?_
            refine s_pure (.bool ((ptOut g154).2)) (fun _ q => q) ?_
            refine s_pure (.bool ((ptOut g154).2 == (ptOut g154).2)) (fun _ q => q) ?_
            refine s_pure (.bool ((ptOut g154).2 == (ptOut g154).2)) (fun _ q => q) ?_
            refine s_splitY rfl (by first | assumption | omega | (simp [tn109a]; done) | (simp [tn109a]; done) | (simp [tn109b]; done) | (simp [tn109b]; done) | (simp [pf170]; done) | (simp; done) | (simp; omega) | simp_all) ?_
            refine s_run rfl ?_
            refine s_pure (.string ((ptOut g154).1)) (fun _ q => q) ?_
            refine s_run rfl ?_
            refine s_pure (.string ((ptOut g154).1)) (fun _ q => q) ?_
            refine s_run rfl ?_
            refine s_pure (.bool ((ptOut g154).1.toList == (ptOut g154).1.toList)) (fun _ q => q) ?_
            refine s_pure (.bool ((ptOut g154).1.toList == (ptOut g154).1.toList)) (fun _ q => q) ?_
            refine s_pure (.bool ((ptOut g154).1.toList == (ptOut g154).1.toList)) (fun _ q => q) ?_
            refine s_splitY rfl (by first | assumption | omega | (simp [tn109a]; done) | (simp [tn109a]; done) | (simp [tn109b]; done) | (simp [tn109b]; done) | (simp [pf170]; done) | (simp; done) | (simp; omega) | simp_all) ?_
            refine s_run rfl ?_
            have f203 := ((((((((f171.ext eh173).ext eh178).ext eh182).ext eh186).mod mh189 (by simp; omega)).ext eh193).ext eh197).mod mh200 (by simp; omega))
            refine s_load (.agg #[.int .i64 g154.message, .int .i64 g154.part, .int .i64 g154.parts, r155]) (fun _ q => f203.loadA rfl q) ?_
            refine s_run rfl ?_
            have f204 := ((((((((f172.ext eh173).ext eh178).ext eh182).ext eh186).mod mh189 (fun b hb hc => by simp at hc; have := lt_r155 b hb; omega)).ext eh193).ext eh197).mod mh200 (fun b hb hc => by simp at hc; have := lt_r155 b hb; omega))
            refine s_call [.agg #[.int .i64 g154.message, .int .i64 g154.part, .int .i64 g154.parts, r155]] rfl (impl_IsPacket_ok g154 r155 _ f204.toSl) ?_
            rintro _ h205 ⟨rfl, eh205⟩
            have E206 := E202.trans eh205
            have z207 := eh205.size
            refine s_run rfl ?_
            refine s_pure (.bool ((ptOut g154).2)) (fun _ q => q) ?_
            refine s_run rfl ?_
            refine s_pure (.bool (decide (PkOk g154) == (ptOut g154).2)) (fun _ q => q) ?_
            refine s_pure (.bool (decide (PkOk g154) == (ptOut g154).2)) (fun _ q => q) ?_
            refine s_pure (.bool (decide (PkOk g154) == (ptOut g154).2)) (fun _ q => q) ?_
            refine s_splitY rfl (by first | assumption | omega | (simp [tn109a]; done) | (simp [tn109a]; done) | (simp [tn109b]; done) | (simp [tn109b]; done) | (simp [pf170]; done) | (simp; done) | (simp; omega) | simp_all) ?_
            refine s_run rfl ?_
            refine s_pure (.bool ((ppOut g177.data.toList).2)) (fun _ q => q) ?_
            refine s_run rfl ?_
            refine s_pure (.bool ((ppOut g177.data.toList).2)) (fun _ q => q) ?_
            refine s_run rfl ?_
            refine s_pure (.bool ((ppOut g177.data.toList).2 == (ppOut g177.data.toList).2)) (fun _ q => q) ?_
            refine s_pure (.bool ((ppOut g177.data.toList).2 == (ppOut g177.data.toList).2)) (fun _ q => q) ?_
            refine s_pure (.bool ((ppOut g177.data.toList).2 == (ppOut g177.data.toList).2)) (fun _ q => q) ?_
            refine s_splitY rfl (by first | assumption | omega | (simp [tn109a]; done) | (simp [tn109a]; done) | (simp [tn109b]; done) | (simp [tn109b]; done) | (simp [pf170]; done) | (simp; done) | (simp; omega) | simp_all) ?_
            refine s_run rfl ?_
            have f208 := ((((bxx190.ext eh193).ext eh197).mod mh200 (by simp; omega)).ext eh205)
            refine s_load (.agg #[.int .i64 (((ppOut g177.data.toList).1).message), .int .i64 (((ppOut g177.data.toList).1).part), .int .i64 (((ppOut g177.data.toList).1).parts), r181]) (fun _ q => f208.loadA rfl q) ?_
            refine s_run rfl ?_
            have f209 := (bxx201.ext eh205)
            refine s_load (.agg #[.int .i64 (((ppOut g177.data.toList).1).message), .int .i64 (((ppOut g177.data.toList).1).part), .int .i64 (((ppOut g177.data.toList).1).parts), r192]) (fun _ q => f209.loadA rfl q) ?_
            refine s_run rfl ?_
            have f210 := ((((((s_r181.ext eh186).mod mh189 (fun b hb hc => by simp at hc; have := lt_r181 b hb; omega)).ext eh193).ext eh197).mod mh200 (fun b hb hc => by simp at hc; have := lt_r181 b hb; omega)).ext eh205)
            have f211 := (((s_r192.ext eh197).mod mh200 (fun b hb hc => by simp at hc; have := lt_r192 b hb; omega)).ext eh205)
            refine s_call [.agg #[.int .i64 (((ppOut g177.data.toList).1).message), .int .i64 (((ppOut g177.data.toList).1).part), .int .i64 (((ppOut g177.data.toList).1).parts), r181], .agg #[.int .i64 (((ppOut g177.data.toList).1).message), .int .i64 (((ppOut g177.data.toList).1).part), .int .i64 (((ppOut g177.data.toList).1).parts), r192]] rfl (laws_pSamePacket_ok ((ppOut g177.data.toList).1) r181 ((ppOut g177.data.toList).1) r192 _ f210.toSl f211.toSl) ?_
            rintro _ h212 ⟨rfl, eh212⟩
            have E213 := E206.trans eh212
            have z214 := eh212.size
            refine s_pure (.bool (decide (((ppOut g177.data.toList).1) = ((ppOut g177.data.toList).1)))) (fun _ q => q) ?_
            refine s_pure (.bool (decide (((ppOut g177.data.toList).1) = ((ppOut g177.data.toList).1)))) (fun _ q => q) ?_
            refine s_nil ?_
            refine p_seqN ?_
            refine v_ret ?_
            refine p_ret [.bool (decide (((ppOut g177.data.toList).1) = ((ppOut g177.data.toList).1)))] (.bool (decide (((ppOut g177.data.toList).1) = ((ppOut g177.data.toList).1)))) (fun _ q => q) rfl ?_
            have ho : true = (decide (((ppOut g177.data.toList).1) = ((ppOut g177.data.toList).1))) := by first | rfl | exact (decide_eq_true rfl).symm | (exfalso; first | omega | exact absurd (jn_eqT (by assumption)) (by assumption) | (simp_all; done))
            exact ⟨by first | (rw [ho]; done) | rfl, E213⟩
          ·
            refine v_seq ?_
            refine v_seq ?_
            refine v_ops ?_
            refine s_pure (.bool ((jnOut (g122.map Pk.p) g124).2)) (fun _ q => q) ?_
            refine s_pure (.bool ((jnOut (g122.map Pk.p) g124).2)) (fun _ q => q) ?_
            refine s_pure (.bool ((jnOut (g122.map Pk.p) g124).2 != (jnOut (g122.map Pk.p) g124).2)) (fun _ q => q) ?_
            refine s_pure (.bool ((jnOut (g122.map Pk.p) g124).2 != (jnOut (g122.map Pk.p) g124).2)) (fun _ q => q) ?_
            refine s_splitN rfl (by first | assumption | omega | (simp [tn109a]; done) | (simp [tn109a]; done) | (simp [tn109b]; done) | (simp [tn109b]; done) | (simp; done) | (simp; omega) | simp_all) ?_
            refine s_run rfl ?_
            refine s_pure r128 (fun _ q => q) ?_
            refine s_run rfl ?_
            refine s_pure r134 (fun _ q => q) ?_
            refine s_run rfl ?_
            have f216 := (((s_r128.ext eh135).ext eh140).ext eh145)
            have f217 := ((s_r134.ext eh140).ext eh145)
            refine s_call [r128, r134] rfl (laws_sameInts_ok r128 ((jnOut (g122.map Pk.p) g124).1) r134 ((jnOut (g122.map Pk.p) g124).1) _ f216.toSl f217.toSl) ?_
            rintro vh215 h215 ⟨hvh215, eh215⟩
            obtain rfl : vh215 = .bool true := hvh215.trans (by rw [decide_eq_true rfl])
            have E218 := E146.trans eh215
            have z219 := eh215.size
            refine s_run rfl ?_
            refine s_pure (.bool false) (fun _ q => q) ?_
            refine s_pure (.bool false) (fun _ q => q) ?_
            refine s_pure (.bool false) (fun _ q => q) ?_
            refine s_splitN rfl (by simp) ?_
            refine s_run rfl ?_
            refine s_pure (.bool ((msOut (g122.map Pk.p) g124).2)) (fun _ q => q) ?_
            refine s_run rfl ?_
            refine s_pure (.bool ((msOut (g122.map Pk.p) g124).2)) (fun _ q => q) ?_
            refine s_run rfl ?_
            refine s_pure (.bool ((msOut (g122.map Pk.p) g124).2 != (msOut (g122.map Pk.p) g124).2)) (fun _ q => q) ?_
            refine s_pure (.bool ((msOut (g122.map Pk.p) g124).2 != (msOut (g122.map Pk.p) g124).2)) (fun _ q => q) ?_
            refine s_pure (.bool ((msOut (g122.map Pk.p) g124).2 != (msOut (g122.map Pk.p) g124).2)) (fun _ q => q) ?_
            refine s_splitN rfl (by first | assumption | omega | (simp [tn109a]; done) | (simp [tn109a]; done) | (simp [tn109b]; done) | (simp [tn109b]; done) | (simp; done) | (simp; omega) | simp_all) ?_
            refine s_run rfl ?_
            refine s_pure r139 (fun _ q => q) ?_
            refine s_run rfl ?_
            refine s_pure r144 (fun _ q => q) ?_
            refine s_run rfl ?_
            have f221 := ((s_r139.ext eh145).ext eh215)
            have f222 := (s_r144.ext eh215)
            refine s_call [r139, r144] rfl (laws_sameInts_ok r139 ((msOut (g122.map Pk.p) g124).1) r144 ((msOut (g122.map Pk.p) g124).1) _ f221.toSl f222.toSl) ?_
            rintro vh220 h220 ⟨hvh220, eh220⟩
            obtain rfl : vh220 = .bool true := hvh220.trans (by rw [decide_eq_true rfl])
            have E223 := E218.trans eh220
            have z224 := eh220.size
            refine s_run rfl ?_
            refine s_pure (.bool false) (fun _ q => q) ?_
            refine s_pure (.bool false) (fun _ q => q) ?_
            refine s_pure (.bool false) (fun _ q => q) ?_
            refine s_splitN rfl (by simp) ?_
            refine s_run rfl ?_
            refine s_pure (.bool ((jnOut (g122.map Pk.p) g124).2)) (fun _ q => q) ?_
            refine s_run rfl ?_
            refine s_pure (.bool ((msOut (g122.map Pk.p) g124).2)) (fun _ q => q) ?_
            refine s_run rfl ?_
            refine s_pure (.bool ((msOut (g122.map Pk.p) g124).2)) (fun _ q => q) ?_
            refine s_splitT rfl (fun c225 => ?_) (fun c225 => ?_)
            ·
              refine s_run rfl ?_
              refine s_pure r144 (fun _ q => q) ?_
              refine s_run rfl ?_
              refine s_pure (.int .i64 (((msOut (g122.map Pk.p) g124).1).length : Int)) (fun _ q => f222.lenVC q) ?_
              refine s_run rfl ?_
              refine s_pure (.bool ((((msOut (g122.map Pk.p) g124).1).length : Int) == 0)) (fun _ q => q) ?_
              refine s_run rfl ?_
              refine s_pure (.bool ((((msOut (g122.map Pk.p) g124).1).length : Int) == 0)) (fun _ q => q) ?_
              refine s_run rfl ?_
              refine s_pure (.bool ((jnOut (g122.map Pk.p) g124).2 != ((((msOut (g122.map Pk.p) g124).1).length : Int) == 0))) (fun _ q => q) ?_
              refine s_pure (.bool ((jnOut (g122.map Pk.p) g124).2 != ((((msOut (g122.map Pk.p) g124).1).length : Int) == 0))) (fun _ q => q) ?_
              refine s_nil ?_
              refine p_seqN ?_
              refine v_cond rfl (fun c226 => ?_) (fun c226 => ?_)
              ·
                refine v_seq ?_
                refine v_ops ?_
                refine s_pure (.bool false) (fun _ q => q) ?_
                refine s_nil ?_
                refine p_seqN ?_
                refine v_ret ?_
                refine p_seqR ?_
                refine p_ret [.bool false] (.bool false) (fun _ q => q) rfl ?_
                have ho : true = false := by first | rfl | exact (decide_eq_true rfl).symm | (exfalso; first | omega | exact absurd (jn_eqT (by assumption)) (by assumption) | (simp_all; done))
                exact ⟨by first | (rw [ho]; done) | rfl, E223⟩
              ·
                have c226 := Classical.not_not.1 c226
                refine v_skip ?_
                refine p_seqN ?_
                exact M148 _ _ rfl (((Ext.refl _).trans eh215).trans eh220)
            ·
              refine s_pass rfl ?_
              refine s_pass rfl ?_
              refine s_pass rfl ?_
              refine s_run rfl ?_
              refine s_pure (.bool false) (fun _ q => q) ?_
              refine s_run rfl ?_
              refine s_pure (.bool ((jnOut (g122.map Pk.p) g124).2 != false)) (fun _ q => q) ?_
              refine s_pure (.bool ((jnOut (g122.map Pk.p) g124).2 != false)) (fun _ q => q) ?_
              refine s_nil ?_
              refine p_seqN ?_
              refine v_cond rfl (fun c227 => ?_) (fun c227 => ?_)
              ·
                refine v_seq ?_
                refine v_ops ?_
                refine s_pure (.bool false) (fun _ q => q) ?_
                refine s_nil ?_
                refine p_seqN ?_
                refine v_ret ?_
                refine p_seqR ?_
                refine p_ret [.bool false] (.bool false) (fun _ q => q) rfl ?_
                have ho : true = false := by first | rfl | exact (decide_eq_true rfl).symm | (exfalso; first | omega | exact absurd (jn_eqT (by assumption)) (by assumption) | (simp_all; done))
                exact ⟨by first | (rw [ho]; done) | rfl, E223⟩
              ·
                have c227 := Classical.not_not.1 c227
                refine v_skip ?_
                refine p_seqN ?_
                exact M148 _ _ rfl (((Ext.refl _).trans eh215).trans eh220)
      ·
        refine v_skip ?_
        refine p_seqN ?_
        refine v_seq ?_
        refine v_ops ?_
        refine s_pure v_more (fun _ q => q) ?_
        have f228 := (((((s_more.ext eh1).ext eh10).ext eh14).ext eh19).ext eh24)
        refine s_call [v_more] rfl (spec_DrawJoinMessage_ok v_more more _ f228 (by first | omega | assumption | (simp; done) | (simp; omega)) (by first | omega | assumption | (simp; done) | (simp; omega))) ?_
        rintro _ h232 ⟨g229, g231, r230, rfl, s_r230, qh232, eh232⟩
        have E233 := E25.trans eh232
        have z234 := eh232.size
        have lt_r230 := s_r230.lt
        have fr_r230 := s_r230.fr
        refine s_pure (.tuple #[r230, .int .i64 g231]) (fun _ q => q) ?_
        refine s_pure r230 (fun _ q => q) ?_
        refine s_pure (.int .i64 g231) (fun _ q => q) ?_
        refine s_pure r230 (fun _ q => q) ?_
        refine s_pure (.int .i64 g231) (fun _ q => q) ?_
        refine s_nil ?_
        refine p_seqN ?_
        refine v_seq ?_
        refine v_ops ?_
        refine s_pure r230 (fun _ q => q) ?_
        refine s_pure (.int .i64 g231) (fun _ q => q) ?_
        refine s_call [r230, .int .i64 g231] rfl (impl_JoinMessage_ok r230 g229 (g229.map Pk.p) g231 _ s_r230.row.toSl s_r230.insL rfl) ?_
        rintro _ h236 ⟨r235, rfl, s_r235, fr_r235, eh236⟩
        have E237 := E233.trans eh236
        have z238 := eh236.size
        have lt_r235 := s_r235.lt
        have ji239 := jn_iff (g229.map Pk.p) g231
        refine s_pure (.tuple #[r235, .bool ((jnOut (g229.map Pk.p) g231).2)]) (fun _ q => q) ?_
        refine s_pure r235 (fun _ q => q) ?_
        refine s_pure (.bool ((jnOut (g229.map Pk.p) g231).2)) (fun _ q => q) ?_
        refine s_pure r235 (fun _ q => q) ?_
        refine s_pure (.bool ((jnOut (g229.map Pk.p) g231).2)) (fun _ q => q) ?_
        refine s_nil ?_
        refine p_seqN ?_
        refine v_seq ?_
        refine v_ops ?_
        refine s_pure r230 (fun _ q => q) ?_
        refine s_pure (.int .i64 g231) (fun _ q => q) ?_
        have f240 := (s_r230.ext eh236)
        refine s_call [r230, .int .i64 g231] rfl (spec_JoinMessage_ok r230 g229 (g229.map Pk.p) g231 _ f240.row.toSl f240.insL rfl) ?_
        rintro _ h242 ⟨r241, rfl, s_r241, fr_r241, eh242⟩
        have E243 := E237.trans eh242
        have z244 := eh242.size
        have lt_r241 := s_r241.lt
        refine s_pure (.tuple #[r241, .bool ((jnOut (g229.map Pk.p) g231).2)]) (fun _ q => q) ?_
        refine s_pure r241 (fun _ q => q) ?_
        refine s_pure (.bool ((jnOut (g229.map Pk.p) g231).2)) (fun _ q => q) ?_
        refine s_pure r241 (fun _ q => q) ?_
        refine s_pure (.bool ((jnOut (g229.map Pk.p) g231).2)) (fun _ q => q) ?_
        refine s_nil ?_
        refine p_seqN ?_
        refine v_seq ?_
        refine v_ops ?_
        refine s_pure r230 (fun _ q => q) ?_
        refine s_pure (.int .i64 g231) (fun _ q => q) ?_
        have f245 := (f240.ext eh242)
        refine s_call [r230, .int .i64 g231] rfl (impl_MissingParts_ok r230 g229 (g229.map Pk.p) g231 _ f245.row.toSl f245.insL rfl) ?_
        rintro _ h247 ⟨r246, rfl, s_r246, fr_r246, eh247⟩
        have E248 := E243.trans eh247
        have z249 := eh247.size
        have lt_r246 := s_r246.lt
        refine s_pure (.tuple #[r246, .bool ((msOut (g229.map Pk.p) g231).2)]) (fun _ q => q) ?_
        refine s_pure r246 (fun _ q => q) ?_
        refine s_pure (.bool ((msOut (g229.map Pk.p) g231).2)) (fun _ q => q) ?_
        refine s_pure r246 (fun _ q => q) ?_
        refine s_pure (.bool ((msOut (g229.map Pk.p) g231).2)) (fun _ q => q) ?_
        refine s_nil ?_
        refine p_seqN ?_
        refine v_seq ?_
        refine v_ops ?_
        refine s_pure r230 (fun _ q => q) ?_
        refine s_pure (.int .i64 g231) (fun _ q => q) ?_
        have f250 := (f245.ext eh247)
        refine s_call [r230, .int .i64 g231] rfl (spec_MissingParts_ok r230 g229 (g229.map Pk.p) g231 _ f250.row.toSl f250.insL rfl) ?_
        rintro _ h252 ⟨r251, rfl, s_r251, fr_r251, eh252⟩
        have E253 := E248.trans eh252
        have z254 := eh252.size
        have lt_r251 := s_r251.lt
        refine s_pure (.tuple #[r251, .bool ((msOut (g229.map Pk.p) g231).2)]) (fun _ q => q) ?_
        refine s_pure r251 (fun _ q => q) ?_
        refine s_pure (.bool ((msOut (g229.map Pk.p) g231).2)) (fun _ q => q) ?_
        refine s_pure r251 (fun _ q => q) ?_
        refine s_pure (.bool ((msOut (g229.map Pk.p) g231).2)) (fun _ q => q) ?_
        refine s_nil ?_
        refine p_seqN ?_
        refine v_seqM1 [(1, v_more)] (fun R256 h257 eh257 => ?_) (fun M255 => ?_)
        ·
          have E258 := E253.trans eh257
          have z259 := eh257.size
          refine v_seq ?_
          refine v_ops ?_
          refine s_pure v_more (fun _ q => q) ?_
          have f260 := ((((((f228.ext eh232).ext eh236).ext eh242).ext eh247).ext eh252).ext eh257)
          refine s_call [v_more] rfl (spec_DrawPacketText_ok v_more more _ f260 (by first | omega | assumption | (simp; done) | (simp; omega)) (by first | omega | assumption | (simp; done) | (simp; omega))) ?_
          rintro _ h263 ⟨g261, r262, rfl, s_r262, fr_r262, qh263, eh263⟩
          have E264 := E258.trans eh263
          have z265 := eh263.size
          have lt_r262 := s_r262.lt
          refine s_new (fun h267 b266 hbb266 hzb266 eh267 bxb266 => ?_)
          have E268 := E264.trans eh267
          have z269 := eh267.size
          have lbb266 := bxb266.lt
          refine s_stBx (.agg #[.int .i64 g261.message, .int .i64 g261.part, .int .i64 g261.parts, r262]) [.int .i64 g261.message, .int .i64 g261.part, .int .i64 g261.parts, r262] [.int .i64 g261.message, .int .i64 g261.part, .int .i64 g261.parts, r262] bxb266 rfl rfl rfl rfl (by simp) (all_cons rfl (all_cons rfl (all_cons rfl (all_cons s_r262.one1 all_nil)))) rfl (fun h270 mh270 sh270 bxx271 => ?_)
          have E272 := E268.mod mh270 (fun b hb => by simp at hb; omega)
          refine s_nil ?_
          refine p_seqN ?_
          refine v_seq ?_
          refine v_ops ?_
          refine s_load (.agg #[.int .i64 g261.message, .int .i64 g261.part, .int .i64 g261.parts, r262]) (fun _ q => bxx271.loadA rfl q) ?_
          have f273 := ((s_r262.ext eh267).mod mh270 (fun b hb hc => by simp at hc; have := lt_r262 b hb; omega))
          refine s_call [.agg #[.int .i64 g261.message, .int .i64 g261.part, .int .i64 g261.parts, r262]] rfl (impl_PacketText_ok g261 r262 _ f273.toSl (g.ext E272)) ?_
          rintro _ h274 ⟨rfl, eh274⟩
          have E275 := E272.trans eh274
          have z276 := eh274.size
          have pf277 := pt_flag g261
          refine s_pure (.tuple #[.string ((ptOut g261).1), .bool ((ptOut g261).2)]) (fun _ q => q) ?_
          refine s_pure (.string ((ptOut g261).1)) (fun _ q => q) ?_
          refine s_pure (.bool ((ptOut g261).2)) (fun _ q => q) ?_
          refine s_pure (.string ((ptOut g261).1)) (fun _ q => q) ?_
          refine s_pure (.bool ((ptOut g261).2)) (fun _ q => q) ?_
          refine s_nil ?_
          refine p_seqN ?_
          refine v_seq ?_
          refine v_ops ?_
          have f278 := (bxx271.ext eh274)
          refine s_load (.agg #[.int .i64 g261.message, .int .i64 g261.part, .int .i64 g261.parts, r262]) (fun _ q => f278.loadA rfl q) ?_
          have f279 := (f273.ext eh274)
          refine s_call [.agg #[.int .i64 g261.message, .int .i64 g261.part, .int .i64 g261.parts, r262]] rfl (spec_PacketText_ok g261 r262 _ f279.toSl) ?_
          rintro _ h280 ⟨rfl, eh280⟩
          have E281 := E275.trans eh280
          have z282 := eh280.size
          refine s_pure (.tuple #[.string ((ptOut g261).1), .bool ((ptOut g261).2)]) (fun _ q => q) ?_
          refine s_pure (.string ((ptOut g261).1)) (fun _ q => q) ?_
          refine s_pure (.bool ((ptOut g261).2)) (fun _ q => q) ?_
          refine s_pure (.string ((ptOut g261).1)) (fun _ q => q) ?_
          refine s_pure (.bool ((ptOut g261).2)) (fun _ q => q) ?_
          refine s_nil ?_
          refine p_seqN ?_
          refine v_seq ?_
          refine v_ops ?_
          refine s_pure v_more (fun _ q => q) ?_
          have f283 := (((((f260.ext eh263).ext eh267).mod mh270 (fun b hb hc => by simp at hc; have := lt_more b hb; omega)).ext eh274).ext eh280)
          refine s_call [v_more] rfl (spec_DrawParsePacket_ok v_more more _ f283 (by first | omega | assumption | (simp; done) | (simp; omega)) (by first | omega | assumption | (simp; done) | (simp; omega))) ?_
          rintro _ h285 ⟨g284, rfl, qh285, eh285⟩
          have E286 := E281.trans eh285
          have z287 := eh285.size
          refine s_pure (.string g284) (fun _ q => q) ?_
          refine s_nil ?_
          refine p_seqN ?_
          refine v_seq ?_
          refine v_ops ?_
          refine s_pure (.string g284) (fun _ q => q) ?_
          refine s_call [.string g284] rfl (impl_ParsePacket_ok g284 _ (by first | (simp [maxLen]; omega) | exact Nat.le_trans (pt_size _) (by simp [maxLen])) (g.ext E286) (by first | omega | exact Nat.le_trans (pt_size _) (by decide))) ?_
          rintro _ h289 ⟨r288, rfl, s_r288, fr_r288, eh289⟩
          have E290 := E286.trans eh289
          have z291 := eh289.size
          have lt_r288 := s_r288.lt
          refine s_pure (.tuple #[.agg #[.int .i64 (((ppOut g284.data.toList).1).message), .int .i64 (((ppOut g284.data.toList).1).part), .int .i64 (((ppOut g284.data.toList).1).parts), r288], .bool ((ppOut g284.data.toList).2)]) (fun _ q => q) ?_
          refine s_pure (.agg #[.int .i64 (((ppOut g284.data.toList).1).message), .int .i64 (((ppOut g284.data.toList).1).part), .int .i64 (((ppOut g284.data.toList).1).parts), r288]) (fun _ q => q) ?_
          refine s_pure (.bool ((ppOut g284.data.toList).2)) (fun _ q => q) ?_
          refine s_new (fun h293 b292 hbb292 hzb292 eh293 bxb292 => ?_)
          have E294 := E290.trans eh293
          have z295 := eh293.size
          have lbb292 := bxb292.lt
          refine s_stBx (.agg #[.int .i64 (((ppOut g284.data.toList).1).message), .int .i64 (((ppOut g284.data.toList).1).part), .int .i64 (((ppOut g284.data.toList).1).parts), r288]) [.int .i64 (((ppOut g284.data.toList).1).message), .int .i64 (((ppOut g284.data.toList).1).part), .int .i64 (((ppOut g284.data.toList).1).parts), r288] [.int .i64 (((ppOut g284.data.toList).1).message), .int .i64 (((ppOut g284.data.toList).1).part), .int .i64 (((ppOut g284.data.toList).1).parts), r288] bxb292 rfl rfl rfl rfl (by simp) (all_cons rfl (all_cons rfl (all_cons rfl (all_cons s_r288.one1 all_nil)))) rfl (fun h296 mh296 sh296 bxx297 => ?_)
          have E298 := E294.mod mh296 (fun b hb => by simp at hb; omega)
          refine s_pure (.bool ((ppOut g284.data.toList).2)) (fun _ q => q) ?_
          refine s_nil ?_
          refine p_seqN ?_
          refine v_seq ?_
          refine v_ops ?_
          refine s_pure (.string g284) (fun _ q => q) ?_
          refine s_call [.string g284] rfl (spec_ParsePacket_ok g284 _ (by first | (simp [maxLen]; omega) | exact Nat.le_trans (pt_size _) (by simp [maxLen])) (by first | omega | exact Nat.le_trans (pt_size _) (by decide))) ?_
          rintro _ h300 ⟨r299, rfl, s_r299, fr_r299, eh300⟩
          have E301 := E298.trans eh300
          have z302 := eh300.size
          have lt_r299 := s_r299.lt
          refine s_pure (.tuple #[.agg #[.int .i64 (((ppOut g284.data.toList).1).message), .int .i64 (((ppOut g284.data.toList).1).part), .int .i64 (((ppOut g284.data.toList).1).parts), r299], .bool ((ppOut g284.data.toList).2)]) (fun _ q => q) ?_
          refine s_pure (.agg #[.int .i64 (((ppOut g284.data.toList).1).message), .int .i64 (((ppOut g284.data.toList).1).part), .int .i64 (((ppOut g284.data.toList).1).parts), r299]) (fun _ q => q) ?_
          refine s_pure (.bool ((ppOut g284.data.toList).2)) (fun _ q => q) ?_
          refine s_new (fun h304 b303 hbb303 hzb303 eh304 bxb303 => ?_)
          have E305 := E301.trans eh304
          have z306 := eh304.size
          have lbb303 := bxb303.lt
          refine s_stBx (.agg #[.int .i64 (((ppOut g284.data.toList).1).message), .int .i64 (((ppOut g284.data.toList).1).part), .int .i64 (((ppOut g284.data.toList).1).parts), r299]) [.int .i64 (((ppOut g284.data.toList).1).message), .int .i64 (((ppOut g284.data.toList).1).part), .int .i64 (((ppOut g284.data.toList).1).parts), r299] [.int .i64 (((ppOut g284.data.toList).1).message), .int .i64 (((ppOut g284.data.toList).1).part), .int .i64 (((ppOut g284.data.toList).1).parts), r299] bxb303 rfl rfl rfl rfl (by simp) (all_cons rfl (all_cons rfl (all_cons rfl (all_cons s_r299.one1 all_nil)))) rfl (fun h307 mh307 sh307 bxx308 => ?_)
          have E309 := E305.mod mh307 (fun b hb => by simp at hb; omega)
          refine s_pure (.bool ((ppOut g284.data.toList).2)) (fun _ q => q) ?_
          refine s_nil ?_
          refine p_seqN ?_
          refine v_seq ?_
          refine v_ops ?_
          refine s_pure (.bool ((ptOut g261).2)) (fun _ q => q) ?_
          refine s_pure (.bool ((ptOut g261).2)) (fun _ q => q) ?_
          refine s_pure (.bool ((ptOut g261).2 == (ptOut g261).2)) (fun _ q => q) ?_
          refine s_pure (.bool ((ptOut g261).2 == (ptOut g261).2)) (fun _ q => q) ?_
          refine s_splitY rfl (by first | assumption | omega | (simp [pf277]; done) | (simp; done) | (simp; omega) | simp_all) ?_
          refine s_run rfl ?_
          refine s_pure (.string ((ptOut g261).1)) (fun _ q => q) ?_
          refine s_run rfl ?_
          refine s_pure (.string ((ptOut g261).1)) (fun _ q => q) ?_
          refine s_run rfl ?_
          refine s_pure (.bool ((ptOut g261).1.toList == (ptOut g261).1.toList)) (fun _ q => q) ?_
          refine s_pure (.bool ((ptOut g261).1.toList == (ptOut g261).1.toList)) (fun _ q => q) ?_
          refine s_pure (.bool ((ptOut g261).1.toList == (ptOut g261).1.toList)) (fun _ q => q) ?_
          refine s_splitY rfl (by first | assumption | omega | (simp [pf277]; done) | (simp; done) | (simp; omega) | simp_all) ?_
          refine s_run rfl ?_
          have f310 := ((((((((f278.ext eh280).ext eh285).ext eh289).ext eh293).mod mh296 (by simp; omega)).ext eh300).ext eh304).mod mh307 (by simp; omega))
          refine s_load (.agg #[.int .i64 g261.message, .int .i64 g261.part, .int .i64 g261.parts, r262]) (fun _ q => f310.loadA rfl q) ?_
          refine s_run rfl ?_
          have f311 := ((((((((f279.ext eh280).ext eh285).ext eh289).ext eh293).mod mh296 (fun b hb hc => by simp at hc; have := lt_r262 b hb; omega)).ext eh300).ext eh304).mod mh307 (fun b hb hc => by simp at hc; have := lt_r262 b hb; omega))
          refine s_call [.agg #[.int .i64 g261.message, .int .i64 g261.part, .int .i64 g261.parts, r262]] rfl (impl_IsPacket_ok g261 r262 _ f311.toSl) ?_
          rintro _ h312 ⟨rfl, eh312⟩
          have E313 := E309.trans eh312
          have z314 := eh312.size
          refine s_run rfl ?_
          refine s_pure (.bool ((ptOut g261).2)) (fun _ q => q) ?_
          refine s_run rfl ?_
          refine s_pure (.bool (decide (PkOk g261) == (ptOut g261).2)) (fun _ q => q) ?_
          refine s_pure (.bool (decide (PkOk g261) == (ptOut g261).2)) (fun _ q => q) ?_
          refine s_pure (.bool (decide (PkOk g261) == (ptOut g261).2)) (fun _ q => q) ?_
          refine s_splitY rfl (by first | assumption | omega | (simp [pf277]; done) | (simp; done) | (simp; omega) | simp_all) ?_
          refine s_run rfl ?_
          refine s_pure (.bool ((ppOut g284.data.toList).2)) (fun _ q => q) ?_
          refine s_run rfl ?_
          refine s_pure (.bool ((ppOut g284.data.toList).2)) (fun _ q => q) ?_
          refine s_run rfl ?_
          refine s_pure (.bool ((ppOut g284.data.toList).2 == (ppOut g284.data.toList).2)) (fun _ q => q) ?_
          refine s_pure (.bool ((ppOut g284.data.toList).2 == (ppOut g284.data.toList).2)) (fun _ q => q) ?_
          refine s_pure (.bool ((ppOut g284.data.toList).2 == (ppOut g284.data.toList).2)) (fun _ q => q) ?_
          refine s_splitY rfl (by first | assumption | omega | (simp [pf277]; done) | (simp; done) | (simp; omega) | simp_all) ?_
          refine s_run rfl ?_
          have f315 := ((((bxx297.ext eh300).ext eh304).mod mh307 (by simp; omega)).ext eh312)
          refine s_load (.agg #[.int .i64 (((ppOut g284.data.toList).1).message), .int .i64 (((ppOut g284.data.toList).1).part), .int .i64 (((ppOut g284.data.toList).1).parts), r288]) (fun _ q => f315.loadA rfl q) ?_
          refine s_run rfl ?_
          have f316 := (bxx308.ext eh312)
          refine s_load (.agg #[.int .i64 (((ppOut g284.data.toList).1).message), .int .i64 (((ppOut g284.data.toList).1).part), .int .i64 (((ppOut g284.data.toList).1).parts), r299]) (fun _ q => f316.loadA rfl q) ?_
          refine s_run rfl ?_
          have f317 := ((((((s_r288.ext eh293).mod mh296 (fun b hb hc => by simp at hc; have := lt_r288 b hb; omega)).ext eh300).ext eh304).mod mh307 (fun b hb hc => by simp at hc; have := lt_r288 b hb; omega)).ext eh312)
          have f318 := (((s_r299.ext eh304).mod mh307 (fun b hb hc => by simp at hc; have := lt_r299 b hb; omega)).ext eh312)
          refine s_call [.agg #[.int .i64 (((ppOut g284.data.toList).1).message), .int .i64 (((ppOut g284.data.toList).1).part), .int .i64 (((ppOut g284.data.toList).1).parts), r288], .agg #[.int .i64 (((ppOut g284.data.toList).1).message), .int .i64 (((ppOut g284.data.toList).1).part), .int .i64 (((ppOut g284.data.toList).1).parts), r299]] rfl (laws_pSamePacket_ok ((ppOut g284.data.toList).1) r288 ((ppOut g284.data.toList).1) r299 _ f317.toSl f318.toSl) ?_
          rintro _ h319 ⟨rfl, eh319⟩
          have E320 := E313.trans eh319
          have z321 := eh319.size
          refine s_pure (.bool (decide (((ppOut g284.data.toList).1) = ((ppOut g284.data.toList).1)))) (fun _ q => q) ?_
          refine s_pure (.bool (decide (((ppOut g284.data.toList).1) = ((ppOut g284.data.toList).1)))) (fun _ q => q) ?_
          refine s_nil ?_
          refine p_seqN ?_
          refine v_ret ?_
          refine p_ret [.bool (decide (((ppOut g284.data.toList).1) = ((ppOut g284.data.toList).1)))] (.bool (decide (((ppOut g284.data.toList).1) = ((ppOut g284.data.toList).1)))) (fun _ q => q) rfl ?_
          have ho : true = (decide (((ppOut g284.data.toList).1) = ((ppOut g284.data.toList).1))) := by first | rfl | exact (decide_eq_true rfl).symm | (exfalso; first | omega | exact absurd (jn_eqT (by assumption)) (by assumption) | (simp_all; done))
          exact ⟨by first | (rw [ho]; done) | rfl, E320⟩
        ·
          refine v_seq ?_
          refine v_seq ?_
          refine v_ops ?_
          refine s_pure (.bool ((jnOut (g229.map Pk.p) g231).2)) (fun _ q => q) ?_
          refine s_pure (.bool ((jnOut (g229.map Pk.p) g231).2)) (fun _ q => q) ?_
          refine s_pure (.bool ((jnOut (g229.map Pk.p) g231).2 != (jnOut (g229.map Pk.p) g231).2)) (fun _ q => q) ?_
          refine s_pure (.bool ((jnOut (g229.map Pk.p) g231).2 != (jnOut (g229.map Pk.p) g231).2)) (fun _ q => q) ?_
          refine s_splitN rfl (by first | assumption | omega | (simp; done) | (simp; omega) | simp_all) ?_
          refine s_run rfl ?_
          refine s_pure r235 (fun _ q => q) ?_
          refine s_run rfl ?_
          refine s_pure r241 (fun _ q => q) ?_
          refine s_run rfl ?_
          have f323 := (((s_r235.ext eh242).ext eh247).ext eh252)
          have f324 := ((s_r241.ext eh247).ext eh252)
          refine s_call [r235, r241] rfl (laws_sameInts_ok r235 ((jnOut (g229.map Pk.p) g231).1) r241 ((jnOut (g229.map Pk.p) g231).1) _ f323.toSl f324.toSl) ?_
          rintro vh322 h322 ⟨hvh322, eh322⟩
          obtain rfl : vh322 = .bool true := hvh322.trans (by rw [decide_eq_true rfl])
          have E325 := E253.trans eh322
          have z326 := eh322.size
          refine s_run rfl ?_
          refine s_pure (.bool false) (fun _ q => q) ?_
          refine s_pure (.bool false) (fun _ q => q) ?_
          refine s_pure (.bool false) (fun _ q => q) ?_
          refine s_splitN rfl (by simp) ?_
          refine s_run rfl ?_
          refine s_pure (.bool ((msOut (g229.map Pk.p) g231).2)) (fun _ q => q) ?_
          refine s_run rfl ?_
          refine s_pure (.bool ((msOut (g229.map Pk.p) g231).2)) (fun _ q => q) ?_
          refine s_run rfl ?_
          refine s_pure (.bool ((msOut (g229.map Pk.p) g231).2 != (msOut (g229.map Pk.p) g231).2)) (fun _ q => q) ?_
          refine s_pure (.bool ((msOut (g229.map Pk.p) g231).2 != (msOut (g229.map Pk.p) g231).2)) (fun _ q => q) ?_
          refine s_pure (.bool ((msOut (g229.map Pk.p) g231).2 != (msOut (g229.map Pk.p) g231).2)) (fun _ q => q) ?_
          refine s_splitN rfl (by first | assumption | omega | (simp; done) | (simp; omega) | simp_all) ?_
          refine s_run rfl ?_
          refine s_pure r246 (fun _ q => q) ?_
          refine s_run rfl ?_
          refine s_pure r251 (fun _ q => q) ?_
          refine s_run rfl ?_
          have f328 := ((s_r246.ext eh252).ext eh322)
          have f329 := (s_r251.ext eh322)
          refine s_call [r246, r251] rfl (laws_sameInts_ok r246 ((msOut (g229.map Pk.p) g231).1) r251 ((msOut (g229.map Pk.p) g231).1) _ f328.toSl f329.toSl) ?_
          rintro vh327 h327 ⟨hvh327, eh327⟩
          obtain rfl : vh327 = .bool true := hvh327.trans (by rw [decide_eq_true rfl])
          have E330 := E325.trans eh327
          have z331 := eh327.size
          refine s_run rfl ?_
          refine s_pure (.bool false) (fun _ q => q) ?_
          refine s_pure (.bool false) (fun _ q => q) ?_
          refine s_pure (.bool false) (fun _ q => q) ?_
          refine s_splitN rfl (by simp) ?_
          refine s_run rfl ?_
          refine s_pure (.bool ((jnOut (g229.map Pk.p) g231).2)) (fun _ q => q) ?_
          refine s_run rfl ?_
          refine s_pure (.bool ((msOut (g229.map Pk.p) g231).2)) (fun _ q => q) ?_
          refine s_run rfl ?_
          refine s_pure (.bool ((msOut (g229.map Pk.p) g231).2)) (fun _ q => q) ?_
          refine s_splitT rfl (fun c332 => ?_) (fun c332 => ?_)
          ·
            refine s_run rfl ?_
            refine s_pure r251 (fun _ q => q) ?_
            refine s_run rfl ?_
            refine s_pure (.int .i64 (((msOut (g229.map Pk.p) g231).1).length : Int)) (fun _ q => f329.lenVC q) ?_
            refine s_run rfl ?_
            refine s_pure (.bool ((((msOut (g229.map Pk.p) g231).1).length : Int) == 0)) (fun _ q => q) ?_
            refine s_run rfl ?_
            refine s_pure (.bool ((((msOut (g229.map Pk.p) g231).1).length : Int) == 0)) (fun _ q => q) ?_
            refine s_run rfl ?_
            refine s_pure (.bool ((jnOut (g229.map Pk.p) g231).2 != ((((msOut (g229.map Pk.p) g231).1).length : Int) == 0))) (fun _ q => q) ?_
            refine s_pure (.bool ((jnOut (g229.map Pk.p) g231).2 != ((((msOut (g229.map Pk.p) g231).1).length : Int) == 0))) (fun _ q => q) ?_
            refine s_nil ?_
            refine p_seqN ?_
            refine v_cond rfl (fun c333 => ?_) (fun c333 => ?_)
            ·
              refine v_seq ?_
              refine v_ops ?_
              refine s_pure (.bool false) (fun _ q => q) ?_
              refine s_nil ?_
              refine p_seqN ?_
              refine v_ret ?_
              refine p_seqR ?_
              refine p_ret [.bool false] (.bool false) (fun _ q => q) rfl ?_
              have ho : true = false := by first | rfl | exact (decide_eq_true rfl).symm | (exfalso; first | omega | exact absurd (jn_eqT (by assumption)) (by assumption) | (simp_all; done))
              exact ⟨by first | (rw [ho]; done) | rfl, E330⟩
            ·
              have c333 := Classical.not_not.1 c333
              refine v_skip ?_
              refine p_seqN ?_
              exact M255 _ _ rfl (((Ext.refl _).trans eh322).trans eh327)
          ·
            refine s_pass rfl ?_
            refine s_pass rfl ?_
            refine s_pass rfl ?_
            refine s_run rfl ?_
            refine s_pure (.bool false) (fun _ q => q) ?_
            refine s_run rfl ?_
            refine s_pure (.bool ((jnOut (g229.map Pk.p) g231).2 != false)) (fun _ q => q) ?_
            refine s_pure (.bool ((jnOut (g229.map Pk.p) g231).2 != false)) (fun _ q => q) ?_
            refine s_nil ?_
            refine p_seqN ?_
            refine v_cond rfl (fun c334 => ?_) (fun c334 => ?_)
            ·
              refine v_seq ?_
              refine v_ops ?_
              refine s_pure (.bool false) (fun _ q => q) ?_
              refine s_nil ?_
              refine p_seqN ?_
              refine v_ret ?_
              refine p_seqR ?_
              refine p_ret [.bool false] (.bool false) (fun _ q => q) rfl ?_
              have ho : true = false := by first | rfl | exact (decide_eq_true rfl).symm | (exfalso; first | omega | exact absurd (jn_eqT (by assumption)) (by assumption) | (simp_all; done))
              exact ⟨by first | (rw [ho]; done) | rfl, E330⟩
            ·
              have c334 := Classical.not_not.1 c334
              refine v_skip ?_
              refine p_seqN ?_
              exact M255 _ _ rfl (((Ext.refl _).trans eh322).trans eh327)
    ·
      refine v_seq ?_
      refine v_seq ?_
      refine v_ops ?_
      refine s_pure (.bool ((smOut g6 g7 g9).2)) (fun _ q => q) ?_
      refine s_pure (.bool ((smOut g6 g7 g9).2)) (fun _ q => q) ?_
      refine s_pure (.bool ((smOut g6 g7 g9).2 != (smOut g6 g7 g9).2)) (fun _ q => q) ?_
      refine s_pure (.bool ((smOut g6 g7 g9).2 != (smOut g6 g7 g9).2)) (fun _ q => q) ?_
      refine s_splitN rfl (by first | assumption | omega | (simp; done) | (simp; omega) | simp_all) ?_
      refine s_run rfl ?_
      refine s_pure r13 (fun _ q => q) ?_
      refine s_run rfl ?_
      refine s_pure r18 (fun _ q => q) ?_
      refine s_run rfl ?_
      have f335 := (s_r13.ext eh19)
      refine s_call [r13, r18] rfl (laws_pSamePackets_ok r13 qr13 ((smOut g6 g7 g9).1) r18 qr18 ((smOut g6 g7 g9).1) _ f335.row.toSl f335.insL dq_r13 s_r18.row.toSl s_r18.insL dq_r18) ?_
      rintro _ h336 ⟨rfl, eh336⟩
      have E337 := E20.trans eh336
      have z338 := eh336.size
      refine s_run rfl ?_
      refine s_pure (.bool (!(decide (((smOut g6 g7 g9).1) = ((smOut g6 g7 g9).1))))) (fun _ q => q) ?_
      refine s_pure (.bool (!(decide (((smOut g6 g7 g9).1) = ((smOut g6 g7 g9).1))))) (fun _ q => q) ?_
      refine s_nil ?_
      refine p_seqN ?_
      refine v_condN rfl (by first | assumption | omega | (simp; done) | (simp; omega) | simp_all) ?_
      refine v_skip ?_
      refine p_seqN ?_
      exact M22 _ _ ⟨rfl, rfl, rfl, rfl, rfl, rfl⟩ ((Ext.refl _).trans eh336)

theorem law_ok (h : Heap) (v0 : Value) (x0 : List By) (s0 : Sl h v0 x0) (w0 : ∀ y ∈ x0, (0 ≤ y.n ∧ y.n ≤ 255)) (v1 : Value) (x1 : List By) (s1 : Sl h v1 x1) (w1 : ∀ y ∈ x1, (0 ≤ y.n ∧ y.n ≤ 255)) (g : Gl h) : Cn f_laws_FnPackets [v0, v1] h fun v h' => v = .bool true ∧ Ext h h' := laws_FnPackets_ok v0 x0 v1 x1 h s0 s1 w0 w1 g
end Go.Proofs.YtbikhpphdhffaaaGreatDoor.finFnPackets
