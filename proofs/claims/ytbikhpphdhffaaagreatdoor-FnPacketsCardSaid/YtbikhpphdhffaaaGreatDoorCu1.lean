/- Draws from a cursor. Condition: none. Printed in part by a program. -/
import Derived.Test.YtbikhpphdhffaaaGreatDoorCur
import Derived.Test.YtbikhpphdhffaaaGreatDoorComA
namespace Go.Proofs.YtbikhpphdhffaaaGreatDoor
open Go.Vc
set_option linter.all false
set_option maxRecDepth 10000 in
set_option maxHeartbeats 4000000 in
theorem spec_l1Cur_next_ok (p_c : Nat) (t_c : TypeId) (m_c : Int) (lo_c : Nat) (h : Heap) (C_c : Cur h p_c t_c m_c lo_c) (hm : m_c + 1 ≤ 4000000000000000000) : Cn f_spec_l1Cur_next [.pointer (some ⟨p_c, 0, none⟩)] h fun v h' => ∃ g0 : Int, v = .int .i64 g0 ∧ (0 ≤ g0 ∧ g0 ≤ 255) ∧ Cur h' p_c t_c (m_c + 1) lo_c ∧ Mod [p_c] h h' := by
  obtain ⟨vc_c, code, at_c, sd_c, bx_c, s_code, hcl, hat0, hat1, hby⟩ := C_c.out
  have lc_c := C_c.lt
  have ll_c := C_c.low
  have lt_code := s_code.lt
  have l63_code := s_code.len63
  have apc : ∀ b ∈ blks vc_c, b ∉ [p_c] := fun b hb hc => by simp at hc; have := hcl b hb; omega
  refine calls_of r_spec_l1Cur_next ?_
  refine v_seq ?_
  refine v_ops ?_
  refine s_pure (.int .i64 0) (fun _ q => q) ?_
  refine s_nil ?_
  refine p_seqN ?_
  refine v_seq ?_
  refine v_ops ?_
  refine s_pure (.int .i64 0) (fun _ q => q) ?_
  refine s_nil ?_
  refine p_seqN ?_
  refine v_seq ?_
  refine v_seq ?_
  refine v_ops ?_
  refine s_pure (.pointer (some ⟨p_c, 0, none⟩)) (fun _ q => q) ?_
  refine s_pure (.pointer (some ⟨p_c, 0, none⟩)) (fun _ q => q) ?_
  refine s_pure (.pointer (some ⟨p_c, 1, none⟩)) (fun _ q => q) ?_
  refine s_pure (.pointer (some ⟨p_c, 0, none⟩)) (fun _ q => q) ?_
  refine s_pure (.pointer (some ⟨p_c, 0, none⟩)) (fun _ q => q) ?_
  refine s_pure (.pointer (some ⟨p_c, 0, none⟩)) (fun _ q => q) ?_
  refine s_load (.int .i64 at_c) (fun _ q => bx_c.load rfl q) ?_
  refine s_load vc_c (fun _ q => bx_c.load rfl q) ?_
  refine s_pure (.int .i64 (code.length : Int)) (fun _ q => s_code.lenVC q) ?_
  refine s_pure (.bool (decide (at_c < (code.length : Int)))) (fun _ q => q) ?_
  refine s_nil ?_
  refine p_seqN ?_
  refine v_cond rfl (fun c1 => ?_) (fun c1 => ?_)
  ·
    refine v_ops ?_
    refine s_pure (.pointer (some ⟨p_c, 0, none⟩)) (fun _ q => q) ?_
    refine s_pure (.pointer (some ⟨p_c, 0, none⟩)) (fun _ q => q) ?_
    refine s_pure (.pointer (some ⟨p_c, 0, none⟩)) (fun _ q => q) ?_
    refine s_pure (.pointer (some ⟨p_c, 0, none⟩)) (fun _ q => q) ?_
    refine s_pure (.pointer (some ⟨p_c, 0, none⟩)) (fun _ q => q) ?_
    refine s_pure (.pointer (some ⟨p_c, 1, none⟩)) (fun _ q => q) ?_
    refine s_load vc_c (fun _ q => bx_c.load rfl q) ?_
    refine s_load (.int .i64 at_c) (fun _ q => bx_c.load rfl q) ?_
    have hk2 : (at_c).toNat < code.length := (by first | omega | (simp; omega))
    obtain ⟨x3, hx3⟩ : ∃ x, code[(at_c).toNat]? = some x := ⟨_, List.getElem?_eq_getElem hk2⟩
    refine s_pure (.pointer (some ⟨sblk vc_c, soff vc_c + ((at_c).toNat) * 1, none⟩)) (fun _ q => s_code.idx (k := (at_c).toNat) (by omega) hk2 q) ?_
    refine s_load (.int .u8 x3.n) (fun _ q => s_code.load1 hx3 rfl q) ?_
    refine s_pure (.int .i64 x3.n) (fun _ q => conv_i64 (by have := hby _ (List.mem_of_getElem? (by assumption : code[at_c.toNat]? = some _)); omega) q) ?_
    refine s_pure (.int .i64 x3.n) (fun _ q => q) ?_
    refine s_nil ?_
    refine p_seqN ?_
    refine v_seq ?_
    refine v_ops ?_
    refine s_pure (.pointer (some ⟨p_c, 0, none⟩)) (fun _ q => q) ?_
    refine s_pure (.pointer (some ⟨p_c, 0, none⟩)) (fun _ q => q) ?_
    refine s_pure (.pointer (some ⟨p_c, 1, none⟩)) (fun _ q => q) ?_
    refine s_load (.int .i64 at_c) (fun _ q => bx_c.load rfl q) ?_
    refine s_pure (.int .i64 (at_c + 1)) (fun _ q => ArithVC.mk (by omega) q) ?_
    refine s_pure (.pointer (some ⟨p_c, 0, none⟩)) (fun _ q => q) ?_
    refine s_pure (.pointer (some ⟨p_c, 1, none⟩)) (fun _ q => q) ?_
    refine s_stBx (.int .i64 (at_c + 1)) [.int .i64 (at_c + 1)] [vc_c, .int .i64 (at_c + 1), .int .u64 sd_c] bx_c rfl rfl rfl rfl (by simp) (all_cons rfl all_nil) rfl (fun h4 mh4 sh4 bxx5 => ?_)
    have E6 := (Mod.refl [p_c] h).new mh4 (fun b hb => .inl (by simp at hb; simp [hb]))
    refine s_nil ?_
    refine p_seqN ?_
    refine v_seq ?_
    refine v_ops ?_
    refine s_pure (.pointer (some ⟨p_c, 0, none⟩)) (fun _ q => q) ?_
    refine s_pure (.pointer (some ⟨p_c, 0, none⟩)) (fun _ q => q) ?_
    refine s_pure (.pointer (some ⟨p_c, 0, none⟩)) (fun _ q => q) ?_
    refine s_pure (.pointer (some ⟨p_c, 2, none⟩)) (fun _ q => q) ?_
    refine s_load (.int .u64 sd_c) (fun _ q => bxx5.load rfl q) ?_
    refine s_pure (.int .u64 (IntKind.u64.wrap (sd_c * 6364136223846793005))) (fun _ q => ArithVC.raw q) ?_
    refine s_pure (.int .i64 x3.n) (fun _ q => q) ?_
    refine s_pure (.int .u64 (IntKind.u64.wrap x3.n)) (fun _ q => q) ?_
    refine s_pure (.int .u64 (IntKind.u64.wrap ((IntKind.u64.wrap (sd_c * 6364136223846793005)) + (IntKind.u64.wrap x3.n)))) (fun _ q => ArithVC.raw q) ?_
    refine s_pure (.int .u64 (IntKind.u64.wrap ((IntKind.u64.wrap ((IntKind.u64.wrap (sd_c * 6364136223846793005)) + (IntKind.u64.wrap x3.n))) + 1442695040888963407))) (fun _ q => ArithVC.raw q) ?_
    refine s_pure (.pointer (some ⟨p_c, 0, none⟩)) (fun _ q => q) ?_
    refine s_pure (.pointer (some ⟨p_c, 2, none⟩)) (fun _ q => q) ?_
    refine s_stBx (.int .u64 (IntKind.u64.wrap ((IntKind.u64.wrap ((IntKind.u64.wrap (sd_c * 6364136223846793005)) + (IntKind.u64.wrap x3.n))) + 1442695040888963407))) [.int .u64 (IntKind.u64.wrap ((IntKind.u64.wrap ((IntKind.u64.wrap (sd_c * 6364136223846793005)) + (IntKind.u64.wrap x3.n))) + 1442695040888963407))] [vc_c, .int .i64 (at_c + 1), .int .u64 (IntKind.u64.wrap ((IntKind.u64.wrap ((IntKind.u64.wrap (sd_c * 6364136223846793005)) + (IntKind.u64.wrap x3.n))) + 1442695040888963407))] bxx5 rfl rfl rfl rfl (by simp) (all_cons rfl all_nil) rfl (fun h7 mh7 sh7 bxx8 => ?_)
    have E9 := E6.new mh7 (fun b hb => .inl (by simp at hb; simp [hb]))
    refine s_nil ?_
    refine p_seqN ?_
    refine v_seq ?_
    refine v_seq ?_
    refine v_ops ?_
    refine s_pure (.pointer (some ⟨p_c, 0, none⟩)) (fun _ q => q) ?_
    refine s_pure (.pointer (some ⟨p_c, 0, none⟩)) (fun _ q => q) ?_
    refine s_pure (.pointer (some ⟨p_c, 1, none⟩)) (fun _ q => q) ?_
    refine s_pure (.pointer (some ⟨p_c, 0, none⟩)) (fun _ q => q) ?_
    refine s_pure (.pointer (some ⟨p_c, 0, none⟩)) (fun _ q => q) ?_
    refine s_pure (.pointer (some ⟨p_c, 0, none⟩)) (fun _ q => q) ?_
    refine s_load (.int .i64 (at_c + 1)) (fun _ q => bxx8.load rfl q) ?_
    refine s_load vc_c (fun _ q => bxx8.load rfl q) ?_
    refine s_pure (.int .i64 (code.length : Int)) (fun _ q => s_code.lenVC q) ?_
    refine s_pure (.bool (decide ((at_c + 1) ≤ (code.length : Int)))) (fun _ q => q) ?_
    refine s_nil ?_
    refine p_seqN ?_
    refine v_cond rfl (fun c10 => ?_) (fun c10 => ?_)
    ·
      refine v_seq ?_
      refine v_ops ?_
      refine s_pure (.int .i64 x3.n) (fun _ q => q) ?_
      refine s_pure (.int .i64 x3.n) (fun _ q => q) ?_
      refine s_nil ?_
      refine p_seqN ?_
      refine v_ret ?_
      refine p_seqR ?_
      refine p_ret [.int .i64 x3.n] (.int .i64 x3.n) (fun _ q => q) rfl ?_
      have f11 := ((s_code.mod mh4 apc).mod mh7 apc)
      exact ⟨x3.n, rfl, (by first | (have := hby _ (List.mem_of_getElem? (by assumption : code[at_c.toNat]? = some _)); omega) | exact bits_255 _ | omega), ((Cur.mk2 bxx8 f11 hcl hby (m := m_c + 1) (by omega) ll_c).le (by omega)), E9⟩
    ·
      refine v_skip ?_
      refine p_seqN ?_
      refine v_seq ?_
      refine v_ops ?_
      refine s_pure (.pointer (some ⟨p_c, 0, none⟩)) (fun _ q => q) ?_
      refine s_pure (.pointer (some ⟨p_c, 0, none⟩)) (fun _ q => q) ?_
      refine s_pure (.pointer (some ⟨p_c, 2, none⟩)) (fun _ q => q) ?_
      refine s_load (.int .u64 (IntKind.u64.wrap ((IntKind.u64.wrap ((IntKind.u64.wrap (sd_c * 6364136223846793005)) + (IntKind.u64.wrap x3.n))) + 1442695040888963407))) (fun _ q => bxx8.load rfl q) ?_
      refine s_pure (.int .u64 (((IntKind.u64.wrap ((IntKind.u64.wrap ((IntKind.u64.wrap (sd_c * 6364136223846793005)) + (IntKind.u64.wrap x3.n))) + 1442695040888963407))).fdiv (2 ^ (min ((40) : Int).toNat IntKind.u64.bits)))) (fun _ q => ⟨by decide, q⟩) ?_
      refine s_pure (.int .u64 (bits .and .u64 (((IntKind.u64.wrap ((IntKind.u64.wrap ((IntKind.u64.wrap (sd_c * 6364136223846793005)) + (IntKind.u64.wrap x3.n))) + 1442695040888963407))).fdiv (2 ^ (min ((40) : Int).toNat IntKind.u64.bits))) 255)) (fun _ q => BitsVC.mk q) ?_
      refine s_pure (.int .i64 (bits .and .u64 (((IntKind.u64.wrap ((IntKind.u64.wrap ((IntKind.u64.wrap (sd_c * 6364136223846793005)) + (IntKind.u64.wrap x3.n))) + 1442695040888963407))).fdiv (2 ^ (min ((40) : Int).toNat IntKind.u64.bits))) 255)) (fun _ q => conv_i64 (bits_64 _) q) ?_
      refine s_pure (.int .i64 (bits .and .u64 (((IntKind.u64.wrap ((IntKind.u64.wrap ((IntKind.u64.wrap (sd_c * 6364136223846793005)) + (IntKind.u64.wrap x3.n))) + 1442695040888963407))).fdiv (2 ^ (min ((40) : Int).toNat IntKind.u64.bits))) 255)) (fun _ q => q) ?_
      refine s_nil ?_
      refine p_seqN ?_
      refine v_ret ?_
      refine p_ret [.int .i64 (bits .and .u64 (((IntKind.u64.wrap ((IntKind.u64.wrap ((IntKind.u64.wrap (sd_c * 6364136223846793005)) + (IntKind.u64.wrap x3.n))) + 1442695040888963407))).fdiv (2 ^ (min ((40) : Int).toNat IntKind.u64.bits))) 255)] (.int .i64 (bits .and .u64 (((IntKind.u64.wrap ((IntKind.u64.wrap ((IntKind.u64.wrap (sd_c * 6364136223846793005)) + (IntKind.u64.wrap x3.n))) + 1442695040888963407))).fdiv (2 ^ (min ((40) : Int).toNat IntKind.u64.bits))) 255)) (fun _ q => q) rfl ?_
      have f12 := ((s_code.mod mh4 apc).mod mh7 apc)
      exact ⟨(bits .and .u64 (((IntKind.u64.wrap ((IntKind.u64.wrap ((IntKind.u64.wrap (sd_c * 6364136223846793005)) + (IntKind.u64.wrap x3.n))) + 1442695040888963407))).fdiv (2 ^ (min ((40) : Int).toNat IntKind.u64.bits))) 255), rfl, (by first | (have := hby _ (List.mem_of_getElem? (by assumption : code[at_c.toNat]? = some _)); omega) | exact bits_255 _ | omega), ((Cur.mk2 bxx8 f12 hcl hby (m := m_c + 1) (by omega) ll_c).le (by omega)), E9⟩
  ·
    refine v_skip ?_
    refine p_seqN ?_
    refine v_seq ?_
    refine v_ops ?_
    refine s_pure (.pointer (some ⟨p_c, 0, none⟩)) (fun _ q => q) ?_
    refine s_pure (.pointer (some ⟨p_c, 0, none⟩)) (fun _ q => q) ?_
    refine s_pure (.pointer (some ⟨p_c, 1, none⟩)) (fun _ q => q) ?_
    refine s_load (.int .i64 at_c) (fun _ q => bx_c.load rfl q) ?_
    refine s_pure (.int .i64 (at_c + 1)) (fun _ q => ArithVC.mk (by omega) q) ?_
    refine s_pure (.pointer (some ⟨p_c, 0, none⟩)) (fun _ q => q) ?_
    refine s_pure (.pointer (some ⟨p_c, 1, none⟩)) (fun _ q => q) ?_
    refine s_stBx (.int .i64 (at_c + 1)) [.int .i64 (at_c + 1)] [vc_c, .int .i64 (at_c + 1), .int .u64 sd_c] bx_c rfl rfl rfl rfl (by simp) (all_cons rfl all_nil) rfl (fun h13 mh13 sh13 bxx14 => ?_)
    have E15 := (Mod.refl [p_c] h).new mh13 (fun b hb => .inl (by simp at hb; simp [hb]))
    refine s_nil ?_
    refine p_seqN ?_
    refine v_seq ?_
    refine v_ops ?_
    refine s_pure (.pointer (some ⟨p_c, 0, none⟩)) (fun _ q => q) ?_
    refine s_pure (.pointer (some ⟨p_c, 0, none⟩)) (fun _ q => q) ?_
    refine s_pure (.pointer (some ⟨p_c, 0, none⟩)) (fun _ q => q) ?_
    refine s_pure (.pointer (some ⟨p_c, 2, none⟩)) (fun _ q => q) ?_
    refine s_load (.int .u64 sd_c) (fun _ q => bxx14.load rfl q) ?_
    refine s_pure (.int .u64 (IntKind.u64.wrap (sd_c * 6364136223846793005))) (fun _ q => ArithVC.raw q) ?_
    refine s_pure (.int .i64 0) (fun _ q => q) ?_
    refine s_pure (.int .u64 (IntKind.u64.wrap 0)) (fun _ q => q) ?_
    refine s_pure (.int .u64 (IntKind.u64.wrap ((IntKind.u64.wrap (sd_c * 6364136223846793005)) + (IntKind.u64.wrap 0)))) (fun _ q => ArithVC.raw q) ?_
    refine s_pure (.int .u64 (IntKind.u64.wrap ((IntKind.u64.wrap ((IntKind.u64.wrap (sd_c * 6364136223846793005)) + (IntKind.u64.wrap 0))) + 1442695040888963407))) (fun _ q => ArithVC.raw q) ?_
    refine s_pure (.pointer (some ⟨p_c, 0, none⟩)) (fun _ q => q) ?_
    refine s_pure (.pointer (some ⟨p_c, 2, none⟩)) (fun _ q => q) ?_
    refine s_stBx (.int .u64 (IntKind.u64.wrap ((IntKind.u64.wrap ((IntKind.u64.wrap (sd_c * 6364136223846793005)) + (IntKind.u64.wrap 0))) + 1442695040888963407))) [.int .u64 (IntKind.u64.wrap ((IntKind.u64.wrap ((IntKind.u64.wrap (sd_c * 6364136223846793005)) + (IntKind.u64.wrap 0))) + 1442695040888963407))] [vc_c, .int .i64 (at_c + 1), .int .u64 (IntKind.u64.wrap ((IntKind.u64.wrap ((IntKind.u64.wrap (sd_c * 6364136223846793005)) + (IntKind.u64.wrap 0))) + 1442695040888963407))] bxx14 rfl rfl rfl rfl (by simp) (all_cons rfl all_nil) rfl (fun h16 mh16 sh16 bxx17 => ?_)
    have E18 := E15.new mh16 (fun b hb => .inl (by simp at hb; simp [hb]))
    refine s_nil ?_
    refine p_seqN ?_
    refine v_seq ?_
    refine v_seq ?_
    refine v_ops ?_
    refine s_pure (.pointer (some ⟨p_c, 0, none⟩)) (fun _ q => q) ?_
    refine s_pure (.pointer (some ⟨p_c, 0, none⟩)) (fun _ q => q) ?_
    refine s_pure (.pointer (some ⟨p_c, 1, none⟩)) (fun _ q => q) ?_
    refine s_pure (.pointer (some ⟨p_c, 0, none⟩)) (fun _ q => q) ?_
    refine s_pure (.pointer (some ⟨p_c, 0, none⟩)) (fun _ q => q) ?_
    refine s_pure (.pointer (some ⟨p_c, 0, none⟩)) (fun _ q => q) ?_
    refine s_load (.int .i64 (at_c + 1)) (fun _ q => bxx17.load rfl q) ?_
    refine s_load vc_c (fun _ q => bxx17.load rfl q) ?_
    refine s_pure (.int .i64 (code.length : Int)) (fun _ q => s_code.lenVC q) ?_
    refine s_pure (.bool (decide ((at_c + 1) ≤ (code.length : Int)))) (fun _ q => q) ?_
    refine s_nil ?_
    refine p_seqN ?_
    refine v_cond rfl (fun c19 => ?_) (fun c19 => ?_)
    ·
      refine v_seq ?_
      refine v_ops ?_
      refine s_pure (.int .i64 0) (fun _ q => q) ?_
      refine s_pure (.int .i64 0) (fun _ q => q) ?_
      refine s_nil ?_
      refine p_seqN ?_
      refine v_ret ?_
      refine p_seqR ?_
      refine p_ret [.int .i64 0] (.int .i64 0) (fun _ q => q) rfl ?_
      have f20 := ((s_code.mod mh13 apc).mod mh16 apc)
      exact ⟨0, rfl, (by first | (have := hby _ (List.mem_of_getElem? (by assumption : code[at_c.toNat]? = some _)); omega) | exact bits_255 _ | omega), ((Cur.mk2 bxx17 f20 hcl hby (m := m_c + 1) (by omega) ll_c).le (by omega)), E18⟩
    ·
      refine v_skip ?_
      refine p_seqN ?_
      refine v_seq ?_
      refine v_ops ?_
      refine s_pure (.pointer (some ⟨p_c, 0, none⟩)) (fun _ q => q) ?_
      refine s_pure (.pointer (some ⟨p_c, 0, none⟩)) (fun _ q => q) ?_
      refine s_pure (.pointer (some ⟨p_c, 2, none⟩)) (fun _ q => q) ?_
      refine s_load (.int .u64 (IntKind.u64.wrap ((IntKind.u64.wrap ((IntKind.u64.wrap (sd_c * 6364136223846793005)) + (IntKind.u64.wrap 0))) + 1442695040888963407))) (fun _ q => bxx17.load rfl q) ?_
      refine s_pure (.int .u64 (((IntKind.u64.wrap ((IntKind.u64.wrap ((IntKind.u64.wrap (sd_c * 6364136223846793005)) + (IntKind.u64.wrap 0))) + 1442695040888963407))).fdiv (2 ^ (min ((40) : Int).toNat IntKind.u64.bits)))) (fun _ q => ⟨by decide, q⟩) ?_
      refine s_pure (.int .u64 (bits .and .u64 (((IntKind.u64.wrap ((IntKind.u64.wrap ((IntKind.u64.wrap (sd_c * 6364136223846793005)) + (IntKind.u64.wrap 0))) + 1442695040888963407))).fdiv (2 ^ (min ((40) : Int).toNat IntKind.u64.bits))) 255)) (fun _ q => BitsVC.mk q) ?_
      refine s_pure (.int .i64 (bits .and .u64 (((IntKind.u64.wrap ((IntKind.u64.wrap ((IntKind.u64.wrap (sd_c * 6364136223846793005)) + (IntKind.u64.wrap 0))) + 1442695040888963407))).fdiv (2 ^ (min ((40) : Int).toNat IntKind.u64.bits))) 255)) (fun _ q => conv_i64 (bits_64 _) q) ?_
      refine s_pure (.int .i64 (bits .and .u64 (((IntKind.u64.wrap ((IntKind.u64.wrap ((IntKind.u64.wrap (sd_c * 6364136223846793005)) + (IntKind.u64.wrap 0))) + 1442695040888963407))).fdiv (2 ^ (min ((40) : Int).toNat IntKind.u64.bits))) 255)) (fun _ q => q) ?_
      refine s_nil ?_
      refine p_seqN ?_
      refine v_ret ?_
      refine p_ret [.int .i64 (bits .and .u64 (((IntKind.u64.wrap ((IntKind.u64.wrap ((IntKind.u64.wrap (sd_c * 6364136223846793005)) + (IntKind.u64.wrap 0))) + 1442695040888963407))).fdiv (2 ^ (min ((40) : Int).toNat IntKind.u64.bits))) 255)] (.int .i64 (bits .and .u64 (((IntKind.u64.wrap ((IntKind.u64.wrap ((IntKind.u64.wrap (sd_c * 6364136223846793005)) + (IntKind.u64.wrap 0))) + 1442695040888963407))).fdiv (2 ^ (min ((40) : Int).toNat IntKind.u64.bits))) 255)) (fun _ q => q) rfl ?_
      have f21 := ((s_code.mod mh13 apc).mod mh16 apc)
      exact ⟨(bits .and .u64 (((IntKind.u64.wrap ((IntKind.u64.wrap ((IntKind.u64.wrap (sd_c * 6364136223846793005)) + (IntKind.u64.wrap 0))) + 1442695040888963407))).fdiv (2 ^ (min ((40) : Int).toNat IntKind.u64.bits))) 255), rfl, (by first | (have := hby _ (List.mem_of_getElem? (by assumption : code[at_c.toNat]? = some _)); omega) | exact bits_255 _ | omega), ((Cur.mk2 bxx17 f21 hcl hby (m := m_c + 1) (by omega) ll_c).le (by omega)), E18⟩

theorem spec_l1Cur_pick_ok (p_c : Nat) (t_c : TypeId) (m_c : Int) (lo_c : Nat) (n : Int) (h : Heap) (C_c : Cur h p_c t_c m_c lo_c) (hm : m_c + 2 ≤ 4000000000000000000) : Cn f_spec_l1Cur_pick [.pointer (some ⟨p_c, 0, none⟩), .int .i64 n] h fun v h' => ∃ g0 : Int, v = .int .i64 g0 ∧ (0 ≤ g0 ∧ (g0 < n ∨ g0 = 0)) ∧ Cur h' p_c t_c (m_c + 2) lo_c ∧ Mod [p_c] h h' := by
  have lc_c := C_c.lt
  have ll_c := C_c.low
  have lm_c := C_c.top
  refine calls_of r_spec_l1Cur_pick ?_
  refine v_seq ?_
  refine v_ops ?_
  refine s_pure (.int .i64 0) (fun _ q => q) ?_
  refine s_nil ?_
  refine p_seqN ?_
  refine v_seq ?_
  refine v_seq ?_
  refine v_ops ?_
  refine s_pure (.int .i64 n) (fun _ q => q) ?_
  refine s_pure (.bool (decide (n ≤ 1))) (fun _ q => q) ?_
  refine s_nil ?_
  refine p_seqN ?_
  refine v_cond rfl (fun c1 => ?_) (fun c1 => ?_)
  ·
    refine v_seq ?_
    refine v_ops ?_
    refine s_pure (.int .i64 0) (fun _ q => q) ?_
    refine s_nil ?_
    refine p_seqN ?_
    refine v_ret ?_
    refine p_seqR ?_
    refine p_ret [.int .i64 0] (.int .i64 0) (fun _ q => q) rfl ?_
    exact ⟨0, rfl, (by first | omega | exact emod_in _ (by omega)), (C_c.le (by omega)), (Mod.refl [p_c] h)⟩
  ·
    refine v_skip ?_
    refine p_seqN ?_
    refine v_seq ?_
    refine v_ops ?_
    refine s_pure (.pointer (some ⟨p_c, 0, none⟩)) (fun _ q => q) ?_
    refine s_call [.pointer (some ⟨p_c, 0, none⟩)] rfl (spec_l1Cur_next_ok p_c t_c m_c lo_c _ C_c (by omega)) ?_
    rintro _ h3 ⟨g2, rfl, qh3, Ch3, mh3⟩
    have zh3 := mh3.size
    have E4 := (Mod.refl [p_c] h).new mh3 (fun b hb => .inl (by simp at hb; simp [hb]))
    refine s_pure (.int .i64 g2) (fun _ q => q) ?_
    refine s_nil ?_
    refine p_seqN ?_
    refine v_seq ?_
    refine v_seq ?_
    refine v_ops ?_
    refine s_pure (.int .i64 n) (fun _ q => q) ?_
    refine s_pure (.bool (decide (n > 200))) (fun _ q => q) ?_
    refine s_nil ?_
    refine p_seqN ?_
    refine v_cond rfl (fun c5 => ?_) (fun c5 => ?_)
    ·
      refine v_ops ?_
      refine s_pure (.int .i64 g2) (fun _ q => q) ?_
      refine s_pure (.int .i64 (g2 * 256)) (fun _ q => ArithVC.mk (by omega) q) ?_
      refine s_pure (.pointer (some ⟨p_c, 0, none⟩)) (fun _ q => q) ?_
      refine s_call [.pointer (some ⟨p_c, 0, none⟩)] rfl (spec_l1Cur_next_ok p_c t_c (m_c + 1) lo_c _ Ch3 (by omega)) ?_
      rintro _ h7 ⟨g6, rfl, qh7, Ch7, mh7⟩
      have zh7 := mh7.size
      have E8 := E4.new mh7 (fun b hb => .inl (by simp at hb; simp [hb]))
      refine s_pure (.int .i64 ((g2 * 256) + g6)) (fun _ q => ArithVC.mk (by omega) q) ?_
      refine s_pure (.int .i64 ((g2 * 256) + g6)) (fun _ q => q) ?_
      refine s_nil ?_
      refine p_seqN ?_
      refine v_seq ?_
      refine v_ops ?_
      refine s_pure (.int .i64 ((g2 * 256) + g6)) (fun _ q => q) ?_
      refine s_pure (.int .i64 n) (fun _ q => q) ?_
      refine s_pure (.int .i64 (((g2 * 256) + g6) % n)) (fun _ q => RemVC.mk (by omega) (by omega) q) ?_
      refine s_pure (.int .i64 (((g2 * 256) + g6) % n)) (fun _ q => q) ?_
      refine s_nil ?_
      refine p_seqN ?_
      refine v_ret ?_
      refine p_ret [.int .i64 (((g2 * 256) + g6) % n)] (.int .i64 (((g2 * 256) + g6) % n)) (fun _ q => q) rfl ?_
      exact ⟨(((g2 * 256) + g6) % n), rfl, (by first | omega | exact emod_in _ (by omega)), (Ch7.le (by omega)), E8⟩
    ·
      refine v_skip ?_
      refine p_seqN ?_
      refine v_seq ?_
      refine v_ops ?_
      refine s_pure (.int .i64 g2) (fun _ q => q) ?_
      refine s_pure (.int .i64 n) (fun _ q => q) ?_
      refine s_pure (.int .i64 (g2 % n)) (fun _ q => RemVC.mk (by omega) (by omega) q) ?_
      refine s_pure (.int .i64 (g2 % n)) (fun _ q => q) ?_
      refine s_nil ?_
      refine p_seqN ?_
      refine v_ret ?_
      refine p_ret [.int .i64 (g2 % n)] (.int .i64 (g2 % n)) (fun _ q => q) rfl ?_
      exact ⟨(g2 % n), rfl, (by first | omega | exact emod_in _ (by omega)), (Ch3.le (by omega)), E4⟩

theorem spec_l1Cur_one_ok (p_c : Nat) (t_c : TypeId) (m_c : Int) (lo_c : Nat) (n : Int) (h : Heap) (C_c : Cur h p_c t_c m_c lo_c) (hm : m_c + 2 ≤ 4000000000000000000) : Cn f_spec_l1Cur_one [.pointer (some ⟨p_c, 0, none⟩), .int .i64 n] h fun v h' => ∃ g0 : Bool, v = .bool g0 ∧ Cur h' p_c t_c (m_c + 2) lo_c ∧ Mod [p_c] h h' := by
  have lc_c := C_c.lt
  have ll_c := C_c.low
  have lm_c := C_c.top
  refine calls_of r_spec_l1Cur_one ?_
  refine v_seq ?_
  refine v_ops ?_
  refine s_pure (.bool false) (fun _ q => q) ?_
  refine s_nil ?_
  refine p_seqN ?_
  refine v_seq ?_
  refine v_ops ?_
  refine s_pure (.pointer (some ⟨p_c, 0, none⟩)) (fun _ q => q) ?_
  refine s_pure (.int .i64 n) (fun _ q => q) ?_
  refine s_call [.pointer (some ⟨p_c, 0, none⟩), .int .i64 n] rfl (spec_l1Cur_pick_ok p_c t_c m_c lo_c n _ C_c (by omega)) ?_
  rintro _ h2 ⟨g1, rfl, qh2, Ch2, mh2⟩
  have zh2 := mh2.size
  have E3 := (Mod.refl [p_c] h).new mh2 (fun b hb => .inl (by simp at hb; simp [hb]))
  refine s_pure (.bool (g1 == 0)) (fun _ q => q) ?_
  refine s_pure (.bool (g1 == 0)) (fun _ q => q) ?_
  refine s_nil ?_
  refine p_seqN ?_
  refine v_ret ?_
  refine p_ret [.bool (g1 == 0)] (.bool (g1 == 0)) (fun _ q => q) rfl ?_
  exact ⟨(g1 == 0), rfl, (Ch2.le (by omega)), E3⟩

theorem spec_l1Cur_among_ok (p_c : Nat) (t_c : TypeId) (m_c : Int) (lo_c : Nat) (v_l : Value) (l : List Int) (h : Heap) (C_c : Cur h p_c t_c m_c lo_c) (s_l : Sl h v_l l) (ap_l : ∀ b ∈ blks v_l, b ∉ [p_c]) (hm : m_c + 2 ≤ 4000000000000000000) (hl : 0 < l.length) : Cn f_spec_l1Cur_among [.pointer (some ⟨p_c, 0, none⟩), v_l] h fun v h' => ∃ g0 : Int, v = .int .i64 g0 ∧ (g0 ∈ l) ∧ Cur h' p_c t_c (m_c + 2) lo_c ∧ Mod [p_c] h h' := by
  have lc_c := C_c.lt
  have ll_c := C_c.low
  have lm_c := C_c.top
  have lt_l := s_l.lt
  have l63_l := s_l.len63
  refine calls_of r_spec_l1Cur_among ?_
  refine v_seq ?_
  refine v_ops ?_
  refine s_pure (.int .i64 0) (fun _ q => q) ?_
  refine s_nil ?_
  refine p_seqN ?_
  refine v_seq ?_
  refine v_ops ?_
  refine s_pure v_l (fun _ q => q) ?_
  refine s_pure (.pointer (some ⟨p_c, 0, none⟩)) (fun _ q => q) ?_
  refine s_pure v_l (fun _ q => q) ?_
  refine s_pure (.int .i64 (l.length : Int)) (fun _ q => s_l.lenVC q) ?_
  refine s_call [.pointer (some ⟨p_c, 0, none⟩), .int .i64 (l.length : Int)] rfl (spec_l1Cur_pick_ok p_c t_c m_c lo_c (l.length : Int) _ C_c (by omega)) ?_
  rintro _ h2 ⟨g1, rfl, qh2, Ch2, mh2⟩
  have zh2 := mh2.size
  have E3 := (Mod.refl [p_c] h).new mh2 (fun b hb => .inl (by simp at hb; simp [hb]))
  have f4 := (s_l.mod mh2 ap_l)
  have hk5 : (g1).toNat < l.length := (by first | omega | (simp; omega))
  obtain ⟨x6, hx6⟩ : ∃ x, l[(g1).toNat]? = some x := ⟨_, List.getElem?_eq_getElem hk5⟩
  refine s_pure (.pointer (some ⟨sblk v_l, soff v_l + ((g1).toNat) * 1, none⟩)) (fun _ q => f4.idx (k := (g1).toNat) (by omega) hk5 q) ?_
  refine s_load (.int .i64 x6) (fun _ q => f4.load1 hx6 rfl q) ?_
  refine s_pure (.int .i64 x6) (fun _ q => q) ?_
  refine s_nil ?_
  refine p_seqN ?_
  refine v_ret ?_
  refine p_ret [.int .i64 x6] (.int .i64 x6) (fun _ q => q) rfl ?_
  exact ⟨x6, rfl, (by exact List.mem_of_getElem? (by assumption)), (Ch2.le (by omega)), E3⟩

end Go.Proofs.YtbikhpphdhffaaaGreatDoor
