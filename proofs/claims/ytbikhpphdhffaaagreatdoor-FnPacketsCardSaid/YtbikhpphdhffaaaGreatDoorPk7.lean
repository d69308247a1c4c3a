/- Messages put together; missing parts: the code. Condition: none. Printed in part by a program. -/
import Derived.Test.YtbikhpphdhffaaaGreatDoorPk6
namespace Go.Proofs.YtbikhpphdhffaaaGreatDoor
open Go.Vc
set_option linter.all false

theorem pkf_no1 {l : List PkP} {m : Int} (h : ¬ PksOk l) : pkfOut l m = ([], false) := pkf_no fun c => h c.1
theorem pkf_no2 {l : List PkP} {m : Int} (h : ¬ (1 ≤ m ∧ m ≤ 999)) : pkfOut l m = ([], false) := pkf_no fun c => h c.2
theorem own_le {l ps : List Pk} {m : Int} {k : Nat} (h : ofL ((l.map Pk.p).take k) m = some (ps.map Pk.p)) (hl : l.length ≤ 40) : ps.length ≤ 40 := by
  have := of_len h
  simp only [List.length_map, List.length_take] at this; omega
noncomputable def pkoOut (l : List PkP) (m : Int) : List PkP × Bool := match ofL l m with | some own => (own, true) | none => ([], false)
theorem pko_yes {l : List PkP} {m : Int} {own : List PkP} (h : ofL l m = some own) : pkoOut l m = (own, true) := by rw [pkoOut, h]
theorem pko_bad {l : List PkP} {m : Int} (h : ofL l m = none) : pkoOut l m = ([], false) := by rw [pkoOut, h]
theorem pko_ask {l : List PkP} {m : Int} (h : (pkoOut l m).2 = true) : ofL l m = some (pkoOut l m).1 := by
  unfold pkoOut at h ⊢
  split at h
  · rename_i own ho; rw [ho]
  · cases h
theorem pkf_of {l : List PkP} {m : Int} (h : PksOk l) (hm : 1 ≤ m ∧ m ≤ 999) (h2 : (pkoOut l m).2 = true) : pkfOut l m = ((pkoOut l m).1, decide (0 < (pkoOut l m).1.length)) := pkf_yes h hm (pko_ask h2)
theorem pkf_of0 {l : List PkP} {m : Int} (h2 : ¬ (pkoOut l m).2 = true) : ¬ (pkfOut l m).2 = true := by
  intro h
  have := pkf_ask h
  rw [pkoOut, this.2.1] at h2; exact h2 rfl
theorem any_part {own : List Pk} {k : Int} : own.any (fun x => decide (x.p.part = k)) = (own.map Pk.p).any (fun p : PkP => decide (p.part = k)) := by rw [List.any_map]; rfl
theorem mt_in {own : List Pk} {k : Nat} {o : List Int} (ho : o = missTo (own.map Pk.p) k) (h : ¬ own.any (fun x => decide (x.p.part = (k : Int))) = true) : o ++ [(k : Int)] = missTo (own.map Pk.p) (k + 1) := by
  rw [miss_in (by rw [← any_part]; simpa using h), ho]
theorem mt_out {own : List Pk} {k : Nat} {o : List Int} (ho : o = missTo (own.map Pk.p) k) (h : own.any (fun x => decide (x.p.part = (k : Int))) = true) : o = missTo (own.map Pk.p) (k + 1) := by
  rw [miss_out (by rw [← any_part]; exact h), ho]
theorem any_first {own : List Pk} {k : Int} : 0 ≤ firstF (fun x : Pk => decide (x.p.part = k)) own 0 ↔ own.any (fun x => decide (x.p.part = k)) = true := firstF_nonneg _ own 0
theorem pks_sig {own l : List Pk} (h : PksOk (l.map Pk.p)) (hs : ∀ p ∈ own, p ∈ l) : ∀ p ∈ own, p.sig.length ≤ 8 ∧ 1 ≤ p.parts ∧ p.parts ≤ 9 := by
  intro p hp
  have := h.2 p.p (List.mem_map_of_mem (hs p hp))
  have h1 := this.2.2.2.1.2
  have h2 := this.2.1
  simp only [Pk.p] at h1 h2
  exact ⟨by omega, h2⟩
theorem first_in {own : List Pk} {k : Int} (h : own.any (fun x => decide (x.p.part = k)) = true) : 0 ≤ firstF (fun x : Pk => decide (x.p.part = k)) own 0 ∧ (firstF (fun x : Pk => decide (x.p.part = k)) own 0).toNat < own.length := by
  have h0 := any_first.2 h
  have hb := firstF_bound (fun x : Pk => decide (x.p.part = k)) own 0
  omega
theorem jt_step {own : List Pk} {k : Nat} {o : List Int} {y : Pk} (ho : o = joinTo (own.map Pk.p) k) (hy : own[(firstF (fun x : Pk => decide (x.p.part = (k : Int))) own 0).toNat]? = some y) (h : own.any (fun x => decide (x.p.part = (k : Int))) = true) : o ++ y.sig = joinTo (own.map Pk.p) (k + 1) := by
  rw [join_succ (find_first hy (by have := first_in h; omega)), ho]

theorem impl_packetsOf_1_ok (q : PkP) (v_q_signals : Value) (p : PkP) (v_p_signals : Value) (p_p : Nat) (t_p : TypeId) (h : Heap) (s_q_signals : Sl h v_q_signals q.signals) (s_p_signals : Sl h v_p_signals p.signals) (bx_p : Bx h p_p [.int .i64 p.message, .int .i64 p.part, .int .i64 p.parts, v_p_signals] t_p) : Cn f_impl_packetsOf_1 [.agg #[.int .i64 q.message, .int .i64 q.part, .int .i64 q.parts, v_q_signals], .pointer (some ⟨p_p, 0, none⟩)] h fun v h' => v = .bool (decide (clash p q)) ∧ Ext h h' := by
  have lt_q_signals := s_q_signals.lt
  have l63_q_signals := s_q_signals.len63
  have lt_p_signals := s_p_signals.lt
  have l63_p_signals := s_p_signals.len63
  have lbx_p := bx_p.lt
  refine calls_of r_impl_packetsOf_1 ?_
  refine v_seq ?_
  refine v_ops ?_
  refine s_box [.int .i64 q.message, .int .i64 q.part, .int .i64 q.parts, v_q_signals] rfl (fun h2 b1 hbb1 hzb1 eh2 bxb1 => ?_)
  have E3 := (Ext.refl h).trans eh2
  have z4 := eh2.size
  have lbb1 := bxb1.lt
  refine s_pure (.bool false) (fun _ q => q) ?_
  refine s_nil ?_
  refine p_seqN ?_
  refine v_seq ?_
  refine v_ops ?_
  have f5 := (bx_p.ext eh2)
  refine s_load (.agg #[.int .i64 p.message, .int .i64 p.part, .int .i64 p.parts, v_p_signals]) (fun _ q => f5.loadA rfl q) ?_
  refine s_load (.agg #[.int .i64 q.message, .int .i64 q.part, .int .i64 q.parts, v_q_signals]) (fun _ q => bxb1.loadA rfl q) ?_
  have f6 := (s_p_signals.ext eh2)
  have f7 := (s_q_signals.ext eh2)
  refine s_call [.agg #[.int .i64 p.message, .int .i64 p.part, .int .i64 p.parts, v_p_signals], .agg #[.int .i64 q.message, .int .i64 q.part, .int .i64 q.parts, v_q_signals]] rfl (impl_inConflict_ok p v_p_signals q v_q_signals _ f6 f7) ?_
  rintro _ h8 ⟨rfl, eh8⟩
  have E9 := E3.trans eh8
  have z10 := eh8.size
  refine s_pure (.bool (decide (clash p q))) (fun _ q => q) ?_
  refine s_nil ?_
  refine p_seqN ?_
  refine v_ret ?_
  refine p_ret [.bool (decide (clash p q))] (.bool (decide (clash p q))) (fun _ q => q) rfl ?_
  have ho : decide (clash p q) = decide (clash p q) := by rfl
  exact ⟨by first | (rw [ho]; done) | rfl, E9⟩

theorem impl_missingParts_1_ok (p : PkP) (v_p_signals : Value) (part : Int) (p_part : Nat) (t_part : TypeId) (h : Heap) (s_p_signals : Sl h v_p_signals p.signals) (bx_part : Bx h p_part [.int .i64 part] t_part) : Cn f_impl_missingParts_1 [.agg #[.int .i64 p.message, .int .i64 p.part, .int .i64 p.parts, v_p_signals], .pointer (some ⟨p_part, 0, none⟩)] h fun v h' => v = .bool (decide (p.part = part)) ∧ Ext h h' := by
  have lt_p_signals := s_p_signals.lt
  have l63_p_signals := s_p_signals.len63
  have lbx_part := bx_part.lt
  refine calls_of r_impl_missingParts_1 ?_
  refine v_seq ?_
  refine v_ops ?_
  refine s_box [.int .i64 p.message, .int .i64 p.part, .int .i64 p.parts, v_p_signals] rfl (fun h2 b1 hbb1 hzb1 eh2 bxb1 => ?_)
  have E3 := (Ext.refl h).trans eh2
  have z4 := eh2.size
  have lbb1 := bxb1.lt
  refine s_pure (.bool false) (fun _ q => q) ?_
  refine s_nil ?_
  refine p_seqN ?_
  refine v_seq ?_
  refine v_ops ?_
  refine s_pure (.pointer (some ⟨b1, 1, none⟩)) (fun _ q => q) ?_
  refine s_load (.int .i64 p.part) (fun _ q => bxb1.load rfl q) ?_
  have f5 := (bx_part.ext eh2)
  refine s_load (.int .i64 part) (fun _ q => f5.load rfl q) ?_
  refine s_pure (.bool (p.part == part)) (fun _ q => q) ?_
  refine s_pure (.bool (p.part == part)) (fun _ q => q) ?_
  refine s_nil ?_
  refine p_seqN ?_
  refine v_ret ?_
  refine p_ret [.bool (p.part == part)] (.bool (p.part == part)) (fun _ q => q) rfl ?_
  have ho : decide (p.part = part) = (p.part == part) := by first | rfl | simp
  exact ⟨by first | (rw [ho]; done) | rfl, E3⟩

theorem impl_JoinMessage_1_ok (p : PkP) (v_p_signals : Value) (part : Int) (p_part : Nat) (t_part : TypeId) (h : Heap) (s_p_signals : Sl h v_p_signals p.signals) (bx_part : Bx h p_part [.int .i64 part] t_part) : Cn f_impl_JoinMessage_1 [.agg #[.int .i64 p.message, .int .i64 p.part, .int .i64 p.parts, v_p_signals], .pointer (some ⟨p_part, 0, none⟩)] h fun v h' => v = .bool (decide (p.part = part)) ∧ Ext h h' := by
  have lt_p_signals := s_p_signals.lt
  have l63_p_signals := s_p_signals.len63
  have lbx_part := bx_part.lt
  refine calls_of r_impl_JoinMessage_1 ?_
  refine v_seq ?_
  refine v_ops ?_
  refine s_box [.int .i64 p.message, .int .i64 p.part, .int .i64 p.parts, v_p_signals] rfl (fun h2 b1 hbb1 hzb1 eh2 bxb1 => ?_)
  have E3 := (Ext.refl h).trans eh2
  have z4 := eh2.size
  have lbb1 := bxb1.lt
  refine s_pure (.bool false) (fun _ q => q) ?_
  refine s_nil ?_
  refine p_seqN ?_
  refine v_seq ?_
  refine v_ops ?_
  refine s_pure (.pointer (some ⟨b1, 1, none⟩)) (fun _ q => q) ?_
  refine s_load (.int .i64 p.part) (fun _ q => bxb1.load rfl q) ?_
  have f5 := (bx_part.ext eh2)
  refine s_load (.int .i64 part) (fun _ q => f5.load rfl q) ?_
  refine s_pure (.bool (p.part == part)) (fun _ q => q) ?_
  refine s_pure (.bool (p.part == part)) (fun _ q => q) ?_
  refine s_nil ?_
  refine p_seqN ?_
  refine v_ret ?_
  refine p_ret [.bool (p.part == part)] (.bool (p.part == part)) (fun _ q => q) rfl ?_
  have ho : decide (p.part = part) = (p.part == part) := by first | rfl | simp
  exact ⟨by first | (rw [ho]; done) | rfl, E3⟩

set_option maxRecDepth 10000 in
set_option maxHeartbeats 4000000 in
theorem impl_packetsOf_ok (v_l : Value) (l : List Pk) (d_l : List (PkP)) (m : Int) (h : Heap) (s_l : Sl h v_l l) (in_l : ∀ p ∈ l, Sl h p.sv.v p.sig) (hd_l : l.map Pk.p = d_l) : Cn f_impl_packetsOf [v_l, .int .i64 m] h fun v h' => ∃ r0 : Value, ∃ qr0 : List Pk, v = .tuple #[r0, .bool ((pkfOut d_l m).2)] ∧ SlO h' r0 qr0 ∧ Fr h.size r0 ∧ (∀ p ∈ qr0, p ∈ l) ∧ qr0.map Pk.p = (pkfOut d_l m).1 ∧ Ext h h' := by
  subst hd_l
  have lt_l := s_l.lt
  have l63_l := s_l.len63
  have inlt_l := fun p hp => (in_l p hp).lt
  refine calls_of r_impl_packetsOf ?_
  refine v_seq ?_
  refine v_ops ?_
  refine s_pure (.slice none 0 0) (fun _ q => q) ?_
  refine s_pure (.bool false) (fun _ q => q) ?_
  refine s_nil ?_
  refine p_seqN ?_
  refine v_seq ?_
  refine v_seq ?_
  refine v_ops ?_
  refine s_pure v_l (fun _ q => q) ?_
  refine s_call [v_l] rfl (impl_ArePackets_ok v_l l (l.map Pk.p) _ s_l in_l rfl) ?_
  rintro _ h1 ⟨rfl, eh1⟩
  have E2 := (Ext.refl h).trans eh1
  have z3 := eh1.size
  refine s_pure (.bool (!decide (PksOk (l.map Pk.p)))) (fun _ q => q) ?_
  refine s_pure (.bool (!decide (PksOk (l.map Pk.p)))) (fun _ q => q) ?_
  refine s_splitT rfl (fun c4 => ?_) (fun c4 => ?_)
  ·
    refine s_pass rfl ?_
    refine s_pass rfl ?_
    refine s_pass rfl ?_
    refine s_pure (.bool true) (fun _ q => q) ?_
    refine s_nil ?_
    refine p_seqN ?_
    refine v_condY rfl rfl ?_
    refine v_seq ?_
    refine v_ops ?_
    refine s_pure (.slice none 0 0) (fun _ q => q) ?_
    refine s_pure (.bool false) (fun _ q => q) ?_
    refine s_nil ?_
    refine p_seqN ?_
    refine v_ret ?_
    refine p_seqR ?_
    refine p_ret [.slice none 0 0, .bool false] (.tuple #[.slice none 0 0, .bool false]) (fun _ q => q) rfl ?_
    have ho : pkfOut (l.map Pk.p) m = ([], false) := by first | exact pkf_no1 (by assumption) | exact pkf_no2 (by assumption) | exact pkf_bad (of_bad hof (by assumption) (by omega) (by assumption)) | (rw [pkf_yes (by assumption) (by assumption) (of_end hof (by assumption))]; simp)
    exact ⟨(.slice none 0 0), [], by first | (rw [ho]; done) | rfl, (SlX.nil (α := Pk) true _), (Fr.nil _), (fun p hp => by simp at hp), (congrArg (fun o => o.1) ho).symm, E2⟩
  ·
    have c4 := Classical.not_not.1 c4
    refine s_run rfl ?_
    refine s_pure (.int .i64 m) (fun _ q => q) ?_
    refine s_run rfl ?_
    refine s_callS [.int .i64 m, .int .i64 1, .int .i64 999] (.bool (decide (1 ≤ m ∧ m ≤ 999))) rfl (within_ok m 1 999 _ ) ?_
    refine s_run rfl ?_
    refine s_pure (.bool (!(decide (1 ≤ m ∧ m ≤ 999)))) (fun _ q => q) ?_
    refine s_pure (.bool (!(decide (1 ≤ m ∧ m ≤ 999)))) (fun _ q => q) ?_
    refine s_nil ?_
    refine p_seqN ?_
    refine v_cond rfl (fun c5 => ?_) (fun c5 => ?_)
    ·
      refine v_seq ?_
      refine v_ops ?_
      refine s_pure (.slice none 0 0) (fun _ q => q) ?_
      refine s_pure (.bool false) (fun _ q => q) ?_
      refine s_nil ?_
      refine p_seqN ?_
      refine v_ret ?_
      refine p_seqR ?_
      refine p_ret [.slice none 0 0, .bool false] (.tuple #[.slice none 0 0, .bool false]) (fun _ q => q) rfl ?_
      have ho : pkfOut (l.map Pk.p) m = ([], false) := by first | exact pkf_no1 (by assumption) | exact pkf_no2 (by assumption) | exact pkf_bad (of_bad hof (by assumption) (by omega) (by assumption)) | (rw [pkf_yes (by assumption) (by assumption) (of_end hof (by assumption))]; simp)
      exact ⟨(.slice none 0 0), [], by first | (rw [ho]; done) | rfl, (SlX.nil (α := Pk) true _), (Fr.nil _), (fun p hp => by simp at hp), (congrArg (fun o => o.1) ho).symm, E2⟩
    ·
      have c5 := Classical.not_not.1 c5
      refine v_skip ?_
      refine p_seqN ?_
      refine v_seq ?_
      refine v_ops ?_
      refine s_pure (.slice none 0 0) (fun _ q => q) ?_
      refine s_nil ?_
      refine p_seqN ?_
      refine v_seq ?_
      refine v_seq ?_
      refine v_ops ?_
      refine s_pure v_l (fun _ q => q) ?_
      refine s_pure (.int .i64 (l.length : Int)) (fun _ q => s_l.lenVC q) ?_
      refine s_pure (.int .i64 0) (fun _ q => q) ?_
      refine s_nil ?_
      refine p_seqN ?_
      refine v_block ?_
      have hl40 : l.length ≤ 40 := by (have h4 := (by assumption : PksOk (l.map Pk.p)).1); simpa using h4
      refine v_loop3 (α := Nat) (β := List Pk) (γ := Value) (fun k ps o => [(1, .int .i64 m), (6, o), (17, v_l), (18, .int .i64 (l.length : Int)), (19, .int .i64 (k : Int))]) (fun k ps o hh => Ext h hh ∧ SlO hh o ps ∧ Fr h.size o ∧ k ≤ l.length ∧ (∀ p ∈ ps, p ∈ l) ∧ ofL ((l.map Pk.p).take k) m = some (ps.map Pk.p)) (fun k ps o => l.length - k) 0 [] (.slice none 0 0) ⟨rfl, rfl, rfl, rfl, rfl⟩ ⟨E2, (sl_eq (SlX.nil (α := Pk) true h1) (by simp)), (Fr.nil _), (by simp [ofL])⟩ ?_
      rintro k ps o R7 h6 ⟨Eh, s_o, fr_o, ⟨hk, hsub, hof⟩⟩
      have zEh := Eh.size
      have f9 := s_l.ext Eh
      have in10 := fun p hp => (in_l p hp).ext Eh
      have lt_o := s_o.lt
      have hpl := own_le hof hl40
      refine v_seq ?_
      refine v_ops ?_
      refine s_pure (.bool (decide ((k : Int) < (l.length : Int)))) (fun _ q => q) ?_
      refine s_nil ?_
      refine p_seqN ?_
      refine v_seq ?_
      refine v_cond rfl (fun c11 => ?_) (fun c11 => ?_)
      ·
        refine v_skip ?_
        refine p_seqN ?_
        refine v_seq ?_
        refine v_block ?_
        refine v_seq ?_
        refine v_ops ?_
        have hk12 : k < l.length := (by first | omega | (simp; omega))
        obtain ⟨x13, hx13⟩ : ∃ x, l[k]? = some x := ⟨_, List.getElem?_eq_getElem hk12⟩
        refine s_pure (.pointer (some ⟨sblk v_l, soff v_l + k * 4, none⟩)) (fun _ q => f9.idx (k := k) rfl hk12 q) ?_
        have s14 := in10 x13 (List.mem_of_getElem? hx13)
        refine s_load (.agg #[.int .i64 x13.message, .int .i64 x13.part, .int .i64 x13.parts, x13.sv.v]) (fun _ q => f9.loadN hx13 rfl q) ?_
        refine s_new (fun h16 b15 hbb15 hzb15 eh16 bxb15 => ?_)
        have E17 := Eh.trans eh16
        have z18 := eh16.size
        have lbb15 := bxb15.lt
        refine s_stBx (.agg #[.int .i64 x13.message, .int .i64 x13.part, .int .i64 x13.parts, x13.sv.v]) [.int .i64 x13.message, .int .i64 x13.part, .int .i64 x13.parts, x13.sv.v] [.int .i64 x13.message, .int .i64 x13.part, .int .i64 x13.parts, x13.sv.v] bxb15 rfl rfl rfl rfl (by simp) (all_cons rfl (all_cons rfl (all_cons rfl (all_cons s14.one1 all_nil)))) rfl (fun h19 mh19 sh19 bxx20 => ?_)
        have E21 := E17.mod mh19 (fun b hb => by simp at hb; omega)
        refine s_nil ?_
        refine p_seqN ?_
        refine v_seq ?_
        refine v_seq ?_
        refine v_ops ?_
        refine s_pure (.pointer (some ⟨b15, 0, none⟩)) (fun _ q => q) ?_
        refine s_load (.int .i64 x13.message) (fun _ q => bxx20.load rfl q) ?_
        refine s_pure (.int .i64 m) (fun _ q => q) ?_
        refine s_pure (.bool (x13.message != m)) (fun _ q => q) ?_
        refine s_nil ?_
        refine p_seqN ?_
        refine v_cond rfl (fun c22 => ?_) (fun c22 => ?_)
        ·
          refine v_exit ?_
          refine p_seqX ?_
          refine p_blkX ?_
          refine p_seqN ?_
          refine v_ops ?_
          refine s_pure (.int .i64 ((k : Int) + 1)) (fun _ q => ArithVC.mk (by omega) q) ?_
          refine s_pure (.int .i64 ((k : Int) + 1)) (fun _ q => q) ?_
          refine s_nil ?_
          have f23 := ((s_o.ext eh16).mod mh19 (fun b hb hc => by simp at hc; have := lt_o b hb; omega))
          exact p_lpN ⟨k + 1, ps, o, ⟨rfl, rfl, rfl, rfl, rfl⟩, ⟨E21, (sl_eq f23 (by simp)), (fr_o.mono (by omega)), (by first | exact ⟨by omega, hsub, of_skip hof (by assumption) (by assumption)⟩ | exact ⟨by omega, (fun p hp => by (rcases List.mem_append.1 hp with hp | hp); exact hsub p hp; (obtain rfl := List.mem_singleton.1 hp); exact List.mem_of_getElem? (by assumption)), of_add (x := x13) hof (by assumption) (by omega) (by assumption)⟩)⟩, by omega⟩
        ·
          have c22 := Classical.not_not.1 c22
          refine v_skip ?_
          refine p_seqN ?_
          refine v_seq ?_
          refine v_seq ?_
          refine v_ops ?_
          refine s_pure o (fun _ q => q) ?_
          refine s_pure (.func (.func 65) #[] #[.pointer (some ⟨b15, 0, none⟩)]) (fun _ q => q) ?_
          have in24 := fun p hp => (in10 p hp).ext eh16
          have in25 := fun p hp => (in24 p hp).mod mh19 (fun b hb hc => by simp at hc; have := inlt_l p hp b hb; omega)
          have f26 := ((s_o.ext eh16).mod mh19 (fun b hb hc => by simp at hc; have := lt_o b hb; omega))
          have f27 := ((s14.ext eh16).mod mh19 (fun b hb hc => by simp at hc; have := (inlt_l x13 (List.mem_of_getElem? hx13)) b hb; omega))
          refine s_call [o, .func (.func 65) #[] #[.pointer (some ⟨b15, 0, none⟩)]] rfl (slices_ContainsFunc_Limpl_Packet_impl_Packet_ok o ps 65 #[] #[.pointer (some ⟨b15, 0, none⟩)] (fun x : Pk => decide (clash (Pk.p x13) x.p)) _ f26.toSl (fun p hp => in25 p (hsub p hp)) (fun x hx h2 e2 => impl_packetsOf_1_ok x.p x.sv.v (Pk.p x13) x13.sv.v b15 32 h2 (((fun p hp => in25 p (hsub p hp)) x hx).ext e2) (f27.ext e2) (bxx20.ext e2))) ?_
          rintro _ h28 ⟨rfl, eh28⟩
          have E29 := E21.trans eh28
          have z30 := eh28.size
          refine s_nil ?_
          refine p_seqN ?_
          refine v_cond rfl (fun c31 => ?_) (fun c31 => ?_)
          ·
            refine v_seq ?_
            refine v_ops ?_
            refine s_pure (.slice none 0 0) (fun _ q => q) ?_
            refine s_pure (.bool false) (fun _ q => q) ?_
            refine s_nil ?_
            refine p_seqN ?_
            refine v_ret ?_
            refine p_seqR ?_
            refine p_blkR ?_
            refine p_seqR ?_
            refine p_lpR ?_
            refine p_blkR ?_
            refine p_seqR ?_
            refine p_ret [.slice none 0 0, .bool false] (.tuple #[.slice none 0 0, .bool false]) (fun _ q => q) rfl ?_
            have ho : pkfOut (l.map Pk.p) m = ([], false) := by first | exact pkf_no1 (by assumption) | exact pkf_no2 (by assumption) | exact pkf_bad (of_bad hof (by assumption) (by omega) (by assumption)) | (rw [pkf_yes (by assumption) (by assumption) (of_end hof (by assumption))]; simp)
            exact ⟨(.slice none 0 0), [], by first | (rw [ho]; done) | rfl, (SlX.nil (α := Pk) true _), (Fr.nil _), (fun p hp => by simp at hp), (congrArg (fun o => o.1) ho).symm, E29⟩
          ·
            refine v_skip ?_
            refine p_seqN ?_
            refine v_ops ?_
            refine s_pure o (fun _ q => q) ?_
            have f32 := (bxx20.ext eh28)
            refine s_load (.agg #[.int .i64 x13.message, .int .i64 x13.part, .int .i64 x13.parts, x13.sv.v]) (fun _ q => f32.loadA rfl q) ?_
            refine s_row (α := Pk) [(⟨x13.message, x13.part, x13.parts, x13.sv, x13.sig⟩ : Pk)] (fun _ q => seg_agg rfl rfl (seg_nil q)) rfl (by simp [maxLen]) (fun r33 h34 eh34 zh34 s_r33 fr_r33 => ?_)
            have E35 := E29.trans eh34
            have z36 := eh34.size
            have lt_r33 := s_r33.lt
            have f37 := ((f26.ext eh28).ext eh34)
            refine s_app f37 s_r33 rfl rfl rfl (by simp [maxLen]; omega) (by simp; omega) (fun r38 h39 mh39 zh39 s_r38 ab_r38 => ?_)
            have E40 := E35.mod mh39 (fun b hb => by have := fr_o b hb; omega)
            have fr_r38 := fr_o.app ab_r38 (by omega)
            have np41 : b15 ∉ blks r38 := fun hc => (ab_r38 _ hc).elim (fun hc => by have := lt_o _ hc; omega) (fun hc => by omega)
            have np42 : ∀ b ∈ blks r33, b ∉ blks r38 := fun b hb hc => (ab_r38 _ hc).elim (((fun b hb hc => by have := fr_r33 b hb; have := lt_o b hc; omega) : ∀ b ∈ blks r33, b ∉ blks o) b hb) (fun hc => by have := lt_r33 b hb; omega)
            have lt_r38 := s_r38.lt
            refine s_pure r38 (fun _ q => q) ?_
            refine s_nil ?_
            refine p_blkN ?_
            refine p_seqN ?_
            refine v_ops ?_
            refine s_pure (.int .i64 ((k : Int) + 1)) (fun _ q => ArithVC.mk (by omega) q) ?_
            refine s_pure (.int .i64 ((k : Int) + 1)) (fun _ q => q) ?_
            refine s_nil ?_
            exact p_lpN ⟨k + 1, (ps ++ [(⟨x13.message, x13.part, x13.parts, x13.sv, x13.sig⟩ : Pk)]), r38, ⟨rfl, rfl, rfl, rfl, rfl⟩, ⟨E40, (sl_eq s_r38 (by simp)), (fr_r38.mono (by omega)), (by first | exact ⟨by omega, hsub, of_skip hof (by assumption) (by assumption)⟩ | exact ⟨by omega, (fun p hp => by (rcases List.mem_append.1 hp with hp | hp); exact hsub p hp; (obtain rfl := List.mem_singleton.1 hp); exact List.mem_of_getElem? (by assumption)), of_add (x := x13) hof (by assumption) (by omega) (by assumption)⟩)⟩, by omega⟩
      ·
        refine v_exit ?_
        refine p_seqX ?_
        refine p_lpX ?_
        refine p_blkX ?_
        refine p_seqN ?_
        refine v_seq ?_
        refine v_ops ?_
        refine s_pure o (fun _ q => q) ?_
        refine s_pure o (fun _ q => q) ?_
        refine s_pure (.int .i64 (ps.length : Int)) (fun _ q => s_o.lenVC q) ?_
        refine s_pure (.bool (decide ((ps.length : Int) > 0))) (fun _ q => q) ?_
        refine s_pure o (fun _ q => q) ?_
        refine s_pure (.bool (decide ((ps.length : Int) > 0))) (fun _ q => q) ?_
        refine s_nil ?_
        refine p_seqN ?_
        refine v_ret ?_
        refine p_ret [o, .bool (decide ((ps.length : Int) > 0))] (.tuple #[o, .bool (decide ((ps.length : Int) > 0))]) (fun _ q => q) rfl ?_
        have ho : pkfOut (l.map Pk.p) m = ((ps.map Pk.p), (decide ((ps.length : Int) > 0))) := by first | exact pkf_no1 (by assumption) | exact pkf_no2 (by assumption) | exact pkf_bad (of_bad hof (by assumption) (by omega) (by assumption)) | (rw [pkf_yes (by assumption) (by assumption) (of_end hof (by assumption))]; simp)
        exact ⟨o, ps, by first | (rw [ho]; done) | rfl, s_o, (fr_o.mono (by omega)), hsub, (congrArg (fun o => o.1) ho).symm, Eh⟩


theorem own_ne {q : List Pk} {l : List PkP} {m : Int} (h : (pkfOut l m).2 = true) (hq : q.map Pk.p = (pkfOut l m).1) : 0 < q.length ∧ ∀ p ∈ q, p.sig.length ≤ 8 ∧ 1 ≤ p.parts ∧ p.parts ≤ 9 := by
  have h1 := (pkf_ask h).2.2
  have h2 := (pkf_parts h).1
  rw [← hq] at h1 h2
  refine ⟨by simpa using h1, fun p hp => ?_⟩
  have := h2 p.p (List.mem_map_of_mem hp)
  have h3 := this.2.2.2.1.2
  have h4 := this.2.1
  simp only [Pk.p] at h3 h4
  exact ⟨by omega, h4⟩
theorem own_ne2 {q l : List Pk} {m : Int} {o : List PkP × Bool} (hp : PksOk (l.map Pk.p)) (hq : q.map Pk.p = (pkoOut (l.map Pk.p) m).1) (h : (pkoOut (l.map Pk.p) m).2 = true) : ∀ p ∈ q, p.sig.length ≤ 8 ∧ 1 ≤ p.parts ∧ p.parts ≤ 9 := by
  intro p hpq
  have hof := pko_ask h
  rw [← hq] at hof
  have := hp.2 p.p (of_sub hof p.p (List.mem_map_of_mem hpq))
  have h3 := this.2.2.2.1.2
  have h4 := this.2.1
  simp only [Pk.p] at h3 h4
  exact ⟨by omega, h4⟩
theorem join_le {q : List Pk} (h : ∀ p ∈ q, p.sig.length ≤ 8 ∧ 1 ≤ p.parts ∧ p.parts ≤ 9) (n : Nat) : (joinTo (q.map Pk.p) n).length ≤ 8 * n := join_len (fun p hp => by
  obtain ⟨y, hy, rfl⟩ := List.mem_map.1 hp
  exact (h y hy).1) n
theorem miss_all {q : List Pk} {x : Pk} (hx : q[0]? = some x) {n : Nat} (h : ¬ ((missOf (q.map Pk.p)).length : Int) > 0) (hn : (n : Int) < x.parts) : q.any (fun y => decide (y.p.part = (n : Int))) = true := by
  rw [any_part]
  rw [missOf, parts_at hx] at h
  exact miss_none (n := x.parts.toNat) (by omega) n (by omega)

theorem impl_missingParts_ok (v_own : Value) (own : List Pk) (d_own : List (PkP)) (h : Heap) (s_own : Sl h v_own own) (in_own : ∀ p ∈ own, Sl h p.sv.v p.sig) (hd_own : own.map Pk.p = d_own) (hne : 0 < own.length) (hpp : ∀ p ∈ own, p.sig.length ≤ 8 ∧ 1 ≤ p.parts ∧ p.parts ≤ 9) : Cn f_impl_missingParts [v_own] h fun v h' => ∃ r0 : Value, v = r0 ∧ SlO h' r0 (missOf d_own) ∧ Fr h.size r0 ∧ Ext h h' := by
  subst hd_own
  have lt_own := s_own.lt
  have l63_own := s_own.len63
  have inlt_own := fun p hp => (in_own p hp).lt
  refine calls_of r_impl_missingParts ?_
  refine v_seq ?_
  refine v_ops ?_
  refine s_pure (.slice none 0 0) (fun _ q => q) ?_
  refine s_nil ?_
  refine p_seqN ?_
  refine v_seq ?_
  refine v_ops ?_
  refine s_pure (.slice none 0 0) (fun _ q => q) ?_
  refine s_nil ?_
  refine p_seqN ?_
  refine v_seq ?_
  refine v_seq ?_
  refine v_ops ?_
  refine s_pure v_own (fun _ q => q) ?_
  have hk1 : 0 < own.length := (by first | omega | (simp; omega))
  obtain ⟨x2, hx2⟩ : ∃ x, own[0]? = some x := ⟨_, List.getElem?_eq_getElem hk1⟩
  refine s_pure (.pointer (some ⟨sblk v_own, soff v_own + 0 * 4, none⟩)) (fun _ q => s_own.idx (k := 0) rfl hk1 q) ?_
  refine s_pure (.pointer (some ⟨sblk v_own, soff v_own + 0 * 4 + 2, none⟩)) (fun _ q => q) ?_
  have s3 := in_own x2 (List.mem_of_getElem? hx2)
  refine s_load (.int .i64 x2.parts) (fun _ q => s_own.load hx2 (j := 2) rfl rfl q) ?_
  refine s_pure (.int .i64 0) (fun _ q => q) ?_
  refine s_nil ?_
  refine p_seqN ?_
  refine v_block ?_
  have hp0 := hpp x2 (List.mem_of_getElem? hx2)
  refine v_loop3 (α := Nat) (β := List Int) (γ := Value) (fun k o w => [(0, v_own), (3, w), (8, .int .i64 x2.parts), (9, .int .i64 (k : Int))]) (fun k o w hh => Ext h hh ∧ SlO hh w o ∧ Fr h.size w ∧ (k : Int) ≤ x2.parts ∧ o = missTo (own.map Pk.p) k) (fun k o w => x2.parts.toNat - k) 0 [] (.slice none 0 0) ⟨rfl, rfl, rfl, rfl⟩ ⟨(Ext.refl h), (sl_eq (SlX.nil (α := Int) true h) (by simp)), (Fr.nil _), (by exact ⟨by omega, rfl⟩)⟩ ?_
  rintro k o w R5 h4 ⟨Eh, s_w, fr_w, ⟨hk, ho⟩⟩
  have zEh := Eh.size
  have f7 := s_own.ext Eh
  have in8 := fun p hp => (in_own p hp).ext Eh
  have lt_w := s_w.lt
  have hol := miss_len (own.map Pk.p) k
  rw [← ho] at hol
  refine v_seq ?_
  refine v_ops ?_
  refine s_pure (.bool (decide ((k : Int) < x2.parts))) (fun _ q => q) ?_
  refine s_nil ?_
  refine p_seqN ?_
  refine v_seq ?_
  refine v_cond rfl (fun c9 => ?_) (fun c9 => ?_)
  ·
    refine v_skip ?_
    refine p_seqN ?_
    refine v_seq ?_
    refine v_block ?_
    refine v_seq ?_
    refine v_ops ?_
    refine s_pure (.int .i64 (k : Int)) (fun _ q => q) ?_
    refine s_new (fun h11 b10 hbb10 hzb10 eh11 bxb10 => ?_)
    have E12 := Eh.trans eh11
    have z13 := eh11.size
    have lbb10 := bxb10.lt
    refine s_stBx (.int .i64 (k : Int)) [.int .i64 (k : Int)] [.int .i64 (k : Int)] bxb10 rfl rfl rfl rfl (by simp) (all_cons rfl all_nil) rfl (fun h14 mh14 sh14 bxx15 => ?_)
    have E16 := E12.mod mh14 (fun b hb => by simp at hb; omega)
    refine s_nil ?_
    refine p_seqN ?_
    refine v_seq ?_
    refine v_ops ?_
    refine s_pure v_own (fun _ q => q) ?_
    refine s_pure (.func (.func 67) #[] #[.pointer (some ⟨b10, 0, none⟩)]) (fun _ q => q) ?_
    have in17 := fun p hp => (in8 p hp).ext eh11
    have in18 := fun p hp => (in17 p hp).mod mh14 (fun b hb hc => by simp at hc; have := inlt_own p hp b hb; omega)
    have f19 := ((f7.ext eh11).mod mh14 (fun b hb hc => by simp at hc; have := lt_own b hb; omega))
    refine s_call [v_own, .func (.func 67) #[] #[.pointer (some ⟨b10, 0, none⟩)]] rfl (slices_ContainsFunc_Limpl_Packet_impl_Packet_ok v_own own 67 #[] #[.pointer (some ⟨b10, 0, none⟩)] (fun x : Pk => decide (x.p.part = (k : Int))) _ f19 in18 (fun x hx h2 e2 => impl_missingParts_1_ok x.p x.sv.v (k : Int) b10 3 h2 ((in18 x hx).ext e2) (bxx15.ext e2))) ?_
    rintro _ h20 ⟨rfl, eh20⟩
    have E21 := E16.trans eh20
    have z22 := eh20.size
    refine s_pure (.bool (!(own.any (fun x : Pk => decide (x.p.part = (k : Int)))))) (fun _ q => q) ?_
    refine s_nil ?_
    refine p_seqN ?_
    refine v_cond rfl (fun c23 => ?_) (fun c23 => ?_)
    ·
      refine v_ops ?_
      refine s_pure w (fun _ q => q) ?_
      have f24 := (bxx15.ext eh20)
      refine s_load (.int .i64 (k : Int)) (fun _ q => f24.load rfl q) ?_
      refine s_row (α := Int) [(k : Int)] (fun _ q => seg_i rfl (seg_nil q)) rfl (by simp [maxLen]) (fun r25 h26 eh26 zh26 s_r25 fr_r25 => ?_)
      have E27 := E21.trans eh26
      have z28 := eh26.size
      have lt_r25 := s_r25.lt
      have f29 := ((((s_w.ext eh11).mod mh14 (fun b hb hc => by simp at hc; have := lt_w b hb; omega)).ext eh20).ext eh26)
      refine s_app f29 s_r25 rfl rfl rfl (by simp [maxLen]; omega) (by simp; omega) (fun r30 h31 mh31 zh31 s_r30 ab_r30 => ?_)
      have E32 := E27.mod mh31 (fun b hb => by have := fr_w b hb; omega)
      have fr_r30 := fr_w.app ab_r30 (by omega)
      have np33 : b10 ∉ blks r30 := fun hc => (ab_r30 _ hc).elim (fun hc => by have := lt_w _ hc; omega) (fun hc => by omega)
      have np34 : ∀ b ∈ blks r25, b ∉ blks r30 := fun b hb hc => (ab_r30 _ hc).elim (((fun b hb hc => by have := fr_r25 b hb; have := lt_w b hc; omega) : ∀ b ∈ blks r25, b ∉ blks w) b hb) (fun hc => by have := lt_r25 b hb; omega)
      have lt_r30 := s_r30.lt
      refine s_pure r30 (fun _ q => q) ?_
      refine s_nil ?_
      refine p_blkN ?_
      refine p_seqN ?_
      refine v_ops ?_
      refine s_pure (.int .i64 ((k : Int) + 1)) (fun _ q => ArithVC.mk (by omega) q) ?_
      refine s_pure (.int .i64 ((k : Int) + 1)) (fun _ q => q) ?_
      refine s_nil ?_
      exact p_lpN ⟨k + 1, (o ++ [(k : Int)]), r30, ⟨rfl, rfl, rfl, rfl⟩, ⟨E32, (sl_eq s_r30 (by simp)), (fr_r30.mono (by omega)), (by first | exact ⟨by omega, mt_in ho (by assumption)⟩ | exact ⟨by omega, mt_out ho (by assumption)⟩)⟩, by omega⟩
    ·
      have c23 := Classical.not_not.1 c23
      refine v_skip ?_
      refine p_blkN ?_
      refine p_seqN ?_
      refine v_ops ?_
      refine s_pure (.int .i64 ((k : Int) + 1)) (fun _ q => ArithVC.mk (by omega) q) ?_
      refine s_pure (.int .i64 ((k : Int) + 1)) (fun _ q => q) ?_
      refine s_nil ?_
      have f35 := (((s_w.ext eh11).mod mh14 (fun b hb hc => by simp at hc; have := lt_w b hb; omega)).ext eh20)
      exact p_lpN ⟨k + 1, o, w, ⟨rfl, rfl, rfl, rfl⟩, ⟨E21, (sl_eq f35 (by simp)), (fr_w.mono (by omega)), (by first | exact ⟨by omega, mt_in ho (by assumption)⟩ | exact ⟨by omega, mt_out ho (by assumption)⟩)⟩, by omega⟩
  ·
    refine v_exit ?_
    refine p_seqX ?_
    refine p_lpX ?_
    refine p_blkX ?_
    refine p_seqN ?_
    refine v_seq ?_
    refine v_ops ?_
    refine s_pure w (fun _ q => q) ?_
    refine s_pure w (fun _ q => q) ?_
    refine s_nil ?_
    refine p_seqN ?_
    refine v_ret ?_
    refine p_ret [w] w (fun _ q => q) rfl ?_
    have ho : missOf (own.map Pk.p) = o := by rw [missOf, parts_at (by assumption : own[0]? = some _), ho]; congr 1; omega
    exact ⟨w, by first | (rw [ho]; done) | rfl, sl_eq s_w (congrArg (fun o => o) ho).symm, fr_w.mono (by omega), Eh⟩

theorem impl_MissingParts_ok (v_l : Value) (l : List Pk) (d_l : List (PkP)) (m : Int) (h : Heap) (s_l : Sl h v_l l) (in_l : ∀ p ∈ l, Sl h p.sv.v p.sig) (hd_l : l.map Pk.p = d_l) : Cn f_impl_MissingParts [v_l, .int .i64 m] h fun v h' => ∃ r0 : Value, v = .tuple #[r0, .bool ((msOut d_l m).2)] ∧ SlO h' r0 ((msOut d_l m).1) ∧ Fr h.size r0 ∧ Ext h h' := by
  subst hd_l
  have lt_l := s_l.lt
  have l63_l := s_l.len63
  have inlt_l := fun p hp => (in_l p hp).lt
  refine calls_of r_impl_MissingParts ?_
  refine v_seq ?_
  refine v_ops ?_
  refine s_pure (.slice none 0 0) (fun _ q => q) ?_
  refine s_pure (.bool false) (fun _ q => q) ?_
  refine s_nil ?_
  refine p_seqN ?_
  refine v_seq ?_
  refine v_ops ?_
  refine s_pure v_l (fun _ q => q) ?_
  refine s_pure (.int .i64 m) (fun _ q => q) ?_
  refine s_call [v_l, .int .i64 m] rfl (impl_packetsOf_ok v_l l (l.map Pk.p) m _ s_l in_l rfl) ?_
  rintro _ h2 ⟨r1, qr1, rfl, s_r1, fr_r1, sub_r1, dq_r1, eh2⟩
  have E3 := (Ext.refl h).trans eh2
  have z4 := eh2.size
  have lt_r1 := s_r1.lt
  refine s_pure (.tuple #[r1, .bool ((pkfOut (l.map Pk.p) m).2)]) (fun _ q => q) ?_
  refine s_pure r1 (fun _ q => q) ?_
  refine s_pure (.bool ((pkfOut (l.map Pk.p) m).2)) (fun _ q => q) ?_
  refine s_pure r1 (fun _ q => q) ?_
  refine s_pure (.bool ((pkfOut (l.map Pk.p) m).2)) (fun _ q => q) ?_
  refine s_nil ?_
  refine p_seqN ?_
  refine v_seq ?_
  refine v_seq ?_
  refine v_ops ?_
  refine s_pure (.bool ((pkfOut (l.map Pk.p) m).2)) (fun _ q => q) ?_
  refine s_pure (.bool (!(pkfOut (l.map Pk.p) m).2)) (fun _ q => q) ?_
  refine s_nil ?_
  refine p_seqN ?_
  refine v_cond rfl (fun c5 => ?_) (fun c5 => ?_)
  ·
    refine v_seq ?_
    refine v_ops ?_
    refine s_pure (.slice none 0 0) (fun _ q => q) ?_
    refine s_pure (.bool false) (fun _ q => q) ?_
    refine s_nil ?_
    refine p_seqN ?_
    refine v_ret ?_
    refine p_seqR ?_
    refine p_ret [.slice none 0 0, .bool false] (.tuple #[.slice none 0 0, .bool false]) (fun _ q => q) rfl ?_
    have ho : msOut (l.map Pk.p) m = ([], false) := by first | exact ms_no (by assumption) | exact ms_yes (by assumption)
    exact ⟨(.slice none 0 0), by first | (rw [ho]; done) | rfl, sl_eq (SlX.nil (α := Int) true _) (congrArg (fun o => o.1) ho).symm, Fr.nil _, E3⟩
  ·
    have c5 := Classical.not_not.1 c5
    refine v_skip ?_
    refine p_seqN ?_
    refine v_seq ?_
    refine v_ops ?_
    refine s_pure r1 (fun _ q => q) ?_
    have in6 := fun p hp => (in_l p hp).ext eh2
    refine s_call [r1] rfl (impl_missingParts_ok r1 qr1 ((pkfOut (l.map Pk.p) m).1) _ s_r1.toSl (fun p hp => in6 p (sub_r1 p hp)) dq_r1 (own_ne (by assumption) (by assumption)).1 (own_ne (by assumption) (by assumption)).2) ?_
    rintro r7 h8 ⟨_, rfl, s_r7, fr_r7, eh8⟩
    have E9 := E3.trans eh8
    have z10 := eh8.size
    have lt_r7 := s_r7.lt
    refine s_pure r7 (fun _ q => q) ?_
    refine s_pure (.bool true) (fun _ q => q) ?_
    refine s_nil ?_
    refine p_seqN ?_
    refine v_ret ?_
    refine p_ret [r7, .bool true] (.tuple #[r7, .bool true]) (fun _ q => q) rfl ?_
    have ho : msOut (l.map Pk.p) m = (missOf ((pkfOut (l.map Pk.p) m).1), true) := by first | exact ms_no (by assumption) | exact ms_yes (by assumption)
    exact ⟨r7, by first | (rw [ho]; done) | rfl, sl_eq s_r7 (congrArg (fun o => o.1) ho).symm, fr_r7.mono (by omega), E9⟩

set_option maxRecDepth 10000 in
set_option maxHeartbeats 4000000 in
theorem impl_JoinMessage_ok (v_l : Value) (l : List Pk) (d_l : List (PkP)) (m : Int) (h : Heap) (s_l : Sl h v_l l) (in_l : ∀ p ∈ l, Sl h p.sv.v p.sig) (hd_l : l.map Pk.p = d_l) : Cn f_impl_JoinMessage [v_l, .int .i64 m] h fun v h' => ∃ r0 : Value, v = .tuple #[r0, .bool ((jnOut d_l m).2)] ∧ SlO h' r0 ((jnOut d_l m).1) ∧ Fr h.size r0 ∧ Ext h h' := by
  subst hd_l
  have lt_l := s_l.lt
  have l63_l := s_l.len63
  have inlt_l := fun p hp => (in_l p hp).lt
  refine calls_of r_impl_JoinMessage ?_
  refine v_seq ?_
  refine v_ops ?_
  refine s_pure (.slice none 0 0) (fun _ q => q) ?_
  refine s_pure (.bool false) (fun _ q => q) ?_
  refine s_nil ?_
  refine p_seqN ?_
  refine v_seq ?_
  refine v_ops ?_
  refine s_pure v_l (fun _ q => q) ?_
  refine s_pure (.int .i64 m) (fun _ q => q) ?_
  refine s_call [v_l, .int .i64 m] rfl (impl_packetsOf_ok v_l l (l.map Pk.p) m _ s_l in_l rfl) ?_
  rintro _ h2 ⟨r1, qr1, rfl, s_r1, fr_r1, sub_r1, dq_r1, eh2⟩
  have E3 := (Ext.refl h).trans eh2
  have z4 := eh2.size
  have lt_r1 := s_r1.lt
  refine s_pure (.tuple #[r1, .bool ((pkfOut (l.map Pk.p) m).2)]) (fun _ q => q) ?_
  refine s_pure r1 (fun _ q => q) ?_
  refine s_pure (.bool ((pkfOut (l.map Pk.p) m).2)) (fun _ q => q) ?_
  refine s_pure r1 (fun _ q => q) ?_
  refine s_pure (.bool ((pkfOut (l.map Pk.p) m).2)) (fun _ q => q) ?_
  refine s_nil ?_
  refine p_seqN ?_
  refine v_seq ?_
  refine v_seq ?_
  refine v_ops ?_
  refine s_pure (.bool ((pkfOut (l.map Pk.p) m).2)) (fun _ q => q) ?_
  refine s_pure (.bool (!(pkfOut (l.map Pk.p) m).2)) (fun _ q => q) ?_
  refine s_pure (.bool (!(pkfOut (l.map Pk.p) m).2)) (fun _ q => q) ?_
  refine s_splitT rfl (fun c5 => ?_) (fun c5 => ?_)
  ·
    refine s_pass rfl ?_
    refine s_pass rfl ?_
    refine s_pass rfl ?_
    refine s_pass rfl ?_
    refine s_pure (.bool true) (fun _ q => q) ?_
    refine s_nil ?_
    refine p_seqN ?_
    refine v_condY rfl rfl ?_
    refine v_seq ?_
    refine v_ops ?_
    refine s_pure (.slice none 0 0) (fun _ q => q) ?_
    refine s_pure (.bool false) (fun _ q => q) ?_
    refine s_nil ?_
    refine p_seqN ?_
    refine v_ret ?_
    refine p_seqR ?_
    refine p_ret [.slice none 0 0, .bool false] (.tuple #[.slice none 0 0, .bool false]) (fun _ q => q) rfl ?_
    have ho : jnOut (l.map Pk.p) m = ([], false) := by first | exact jn_no (fun h => (by assumption : ¬ (pkfOut _ m).2 = true) h.1) | exact jn_no (fun h => by (have := h.2); omega)
    exact ⟨(.slice none 0 0), by first | (rw [ho]; done) | rfl, sl_eq (SlX.nil (α := Int) true _) (congrArg (fun o => o.1) ho).symm, Fr.nil _, E3⟩
  ·
    have c5 := Classical.not_not.1 c5
    refine s_run rfl ?_
    refine s_pure r1 (fun _ q => q) ?_
    refine s_run rfl ?_
    have in6 := fun p hp => (in_l p hp).ext eh2
    refine s_call [r1] rfl (impl_missingParts_ok r1 qr1 ((pkfOut (l.map Pk.p) m).1) _ s_r1.toSl (fun p hp => in6 p (sub_r1 p hp)) dq_r1 (own_ne (by assumption) (by assumption)).1 (own_ne (by assumption) (by assumption)).2) ?_
    rintro r7 h8 ⟨_, rfl, s_r7, fr_r7, eh8⟩
    have E9 := E3.trans eh8
    have z10 := eh8.size
    have lt_r7 := s_r7.lt
    refine s_run rfl ?_
    refine s_pure (.int .i64 ((missOf ((pkfOut (l.map Pk.p) m).1)).length : Int)) (fun _ q => s_r7.lenVC q) ?_
    refine s_run rfl ?_
    refine s_pure (.bool (decide (((missOf ((pkfOut (l.map Pk.p) m).1)).length : Int) > 0))) (fun _ q => q) ?_
    refine s_pure (.bool (decide (((missOf ((pkfOut (l.map Pk.p) m).1)).length : Int) > 0))) (fun _ q => q) ?_
    refine s_nil ?_
    refine p_seqN ?_
    refine v_cond rfl (fun c11 => ?_) (fun c11 => ?_)
    ·
      refine v_seq ?_
      refine v_ops ?_
      refine s_pure (.slice none 0 0) (fun _ q => q) ?_
      refine s_pure (.bool false) (fun _ q => q) ?_
      refine s_nil ?_
      refine p_seqN ?_
      refine v_ret ?_
      refine p_seqR ?_
      refine p_ret [.slice none 0 0, .bool false] (.tuple #[.slice none 0 0, .bool false]) (fun _ q => q) rfl ?_
      have ho : jnOut (l.map Pk.p) m = ([], false) := by first | exact jn_no (fun h => (by assumption : ¬ (pkfOut _ m).2 = true) h.1) | exact jn_no (fun h => by (have := h.2); omega)
      exact ⟨(.slice none 0 0), by first | (rw [ho]; done) | rfl, sl_eq (SlX.nil (α := Int) true _) (congrArg (fun o => o.1) ho).symm, Fr.nil _, E9⟩
    ·
      refine v_skip ?_
      refine p_seqN ?_
      refine v_seq ?_
      refine v_ops ?_
      refine s_pure (.slice none 0 0) (fun _ q => q) ?_
      refine s_nil ?_
      refine p_seqN ?_
      refine v_seq ?_
      refine v_seq ?_
      refine v_ops ?_
      refine s_pure r1 (fun _ q => q) ?_
      have f12 := (s_r1.ext eh8)
      have hk13 : 0 < qr1.length := (own_ne (by assumption) (by assumption)).1
      obtain ⟨x14, hx14⟩ : ∃ x, qr1[0]? = some x := ⟨_, List.getElem?_eq_getElem hk13⟩
      refine s_pure (.pointer (some ⟨sblk r1, soff r1 + 0 * 4, none⟩)) (fun _ q => f12.idx (k := 0) rfl hk13 q) ?_
      refine s_pure (.pointer (some ⟨sblk r1, soff r1 + 0 * 4 + 2, none⟩)) (fun _ q => q) ?_
      have in16 := fun p hp => (in6 p hp).ext eh8
      have s15 := (fun p hp => in16 p (sub_r1 p hp)) x14 (List.mem_of_getElem? hx14)
      refine s_load (.int .i64 x14.parts) (fun _ q => f12.load hx14 (j := 2) rfl rfl q) ?_
      refine s_pure (.int .i64 0) (fun _ q => q) ?_
      refine s_nil ?_
      refine p_seqN ?_
      refine v_block ?_
      have hown := own_ne (q := qr1) (by assumption) (by assumption)
      have hp0 := hown.2 x14 (List.mem_of_getElem? hx14)
      have hmiss : ¬ ((missOf (qr1.map Pk.p)).length : Int) > 0 := by rw [(by assumption : qr1.map Pk.p = (pkfOut (l.map Pk.p) m).1)]; assumption
      refine v_loop3 (α := Nat) (β := List Int) (γ := Value) (fun k o w => [(6, r1), (8, w), (28, .int .i64 x14.parts), (29, .int .i64 (k : Int))]) (fun k o w hh => Ext h hh ∧ SlO hh r1 qr1 ∧ SlO hh w o ∧ Fr h.size w ∧ (∀ b ∈ blks r1, b ∉ blks w) ∧ (k : Int) ≤ x14.parts ∧ o = joinTo (qr1.map Pk.p) k) (fun k o w => x14.parts.toNat - k) 0 [] (.slice none 0 0) ⟨rfl, rfl, rfl, rfl⟩ ⟨E9, f12, (sl_eq (SlX.nil (α := Int) true h8) (by simp)), (Fr.nil _), (fun b hb hc => by simp [blks, fpts] at hc), (by exact ⟨by omega, rfl⟩)⟩ ?_
      rintro k o w R18 h17 ⟨Eh, s_r1, s_w, fr_w, np_r1_w, ⟨hk, ho⟩⟩
      have zEh := Eh.size
      have f20 := s_l.ext Eh
      have in21 := fun p hp => (in_l p hp).ext Eh
      have ltk_r1 := s_r1.lt
      have lt_w := s_w.lt
      have hol := join_le (q := qr1) hown.2 k
      rw [← ho] at hol
      refine v_seq ?_
      refine v_ops ?_
      refine s_pure (.bool (decide ((k : Int) < x14.parts))) (fun _ q => q) ?_
      refine s_nil ?_
      refine p_seqN ?_
      refine v_seq ?_
      refine v_cond rfl (fun c22 => ?_) (fun c22 => ?_)
      ·
        refine v_skip ?_
        refine p_seqN ?_
        refine v_seq ?_
        refine v_block ?_
        refine v_seq ?_
        refine v_ops ?_
        refine s_pure (.int .i64 (k : Int)) (fun _ q => q) ?_
        refine s_new (fun h24 b23 hbb23 hzb23 eh24 bxb23 => ?_)
        have E25 := Eh.trans eh24
        have z26 := eh24.size
        have lbb23 := bxb23.lt
        refine s_stBx (.int .i64 (k : Int)) [.int .i64 (k : Int)] [.int .i64 (k : Int)] bxb23 rfl rfl rfl rfl (by simp) (all_cons rfl all_nil) rfl (fun h27 mh27 sh27 bxx28 => ?_)
        have E29 := E25.mod mh27 (fun b hb => by simp at hb; omega)
        refine s_nil ?_
        refine p_seqN ?_
        refine v_seq ?_
        refine v_ops ?_
        refine s_pure r1 (fun _ q => q) ?_
        refine s_pure (.func (.func 40) #[] #[.pointer (some ⟨b23, 0, none⟩)]) (fun _ q => q) ?_
        have in30 := fun p hp => (in21 p hp).ext eh24
        have in31 := fun p hp => (in30 p hp).mod mh27 (fun b hb hc => by simp at hc; have := inlt_l p hp b hb; omega)
        have f32 := ((s_r1.ext eh24).mod mh27 (fun b hb hc => by simp at hc; have := ltk_r1 b hb; have := lt_r1 b hb; omega))
        refine s_call [r1, .func (.func 40) #[] #[.pointer (some ⟨b23, 0, none⟩)]] rfl (slices_IndexFunc_Limpl_Packet_impl_Packet_ok r1 qr1 40 #[] #[.pointer (some ⟨b23, 0, none⟩)] (fun x : Pk => decide (x.p.part = (k : Int))) _ f32.toSl (fun p hp => in31 p (sub_r1 p hp)) (fun x hx h2 e2 => impl_JoinMessage_1_ok x.p x.sv.v (k : Int) b23 3 h2 (((fun p hp => in31 p (sub_r1 p hp)) x hx).ext e2) (bxx28.ext e2))) ?_
        rintro _ h33 ⟨rfl, eh33⟩
        have E34 := E29.trans eh33
        have z35 := eh33.size
        refine s_pure (.int .i64 (firstF (fun x : Pk => decide (x.p.part = (k : Int))) qr1 0)) (fun _ q => q) ?_
        refine s_nil ?_
        refine p_seqN ?_
        refine v_ops ?_
        refine s_pure w (fun _ q => q) ?_
        refine s_pure r1 (fun _ q => q) ?_
        refine s_pure (.int .i64 (firstF (fun x : Pk => decide (x.p.part = (k : Int))) qr1 0)) (fun _ q => q) ?_
        have f36 := (f32.ext eh33)
        have hk37 : ((firstF (fun x : Pk => decide (x.p.part = (k : Int))) qr1 0)).toNat < qr1.length := (by (have hfi := first_in (miss_all (n := k) hx14 hmiss (by omega))); omega)
        obtain ⟨x38, hx38⟩ : ∃ x, qr1[((firstF (fun x : Pk => decide (x.p.part = (k : Int))) qr1 0)).toNat]? = some x := ⟨_, List.getElem?_eq_getElem hk37⟩
        refine s_pure (.pointer (some ⟨sblk r1, soff r1 + (((firstF (fun x : Pk => decide (x.p.part = (k : Int))) qr1 0)).toNat) * 4, none⟩)) (fun _ q => f36.idx (k := ((firstF (fun x : Pk => decide (x.p.part = (k : Int))) qr1 0)).toNat) (by (have hfi := first_in (miss_all (n := k) hx14 hmiss (by omega))); omega) hk37 q) ?_
        refine s_pure (.pointer (some ⟨sblk r1, soff r1 + (((firstF (fun x : Pk => decide (x.p.part = (k : Int))) qr1 0)).toNat) * 4 + 3, none⟩)) (fun _ q => q) ?_
        have in40 := fun p hp => (in31 p hp).ext eh33
        have s39 := (fun p hp => in40 p (sub_r1 p hp)) x38 (List.mem_of_getElem? hx38)
        refine s_load x38.sv.v (fun _ q => f36.load hx38 (j := 3) rfl rfl q) ?_
        have f41 := (((s_w.ext eh24).mod mh27 (fun b hb hc => by simp at hc; have := lt_w b hb; omega)).ext eh33)
        refine s_app f41 s39 rfl rfl rfl (by (have hs8 := (hown.2 _ (List.mem_of_getElem? (by assumption : qr1[(firstF _ _ _).toNat]? = some _))).1); simp [maxLen]; omega) (by (have hs8 := (hown.2 _ (List.mem_of_getElem? (by assumption : qr1[(firstF _ _ _).toNat]? = some _))).1); simp; omega) (fun r42 h43 mh43 zh43 s_r42 ab_r42 => ?_)
        have E44 := E34.mod mh43 (fun b hb => by have := fr_w b hb; omega)
        have fr_r42 := fr_w.app ab_r42 (by omega)
        have np45 : ∀ b ∈ blks r1, b ∉ blks r42 := fun b hb hc => (ab_r42 _ hc).elim ((np_r1_w : ∀ b ∈ blks r1, b ∉ blks w) b hb) (fun hc => by have := ltk_r1 b hb; omega)
        have np46 : ∀ b ∈ blks r1, b ∉ blks r42 := fun b hb hc => (ab_r42 _ hc).elim ((np_r1_w : ∀ b ∈ blks r1, b ∉ blks w) b hb) (fun hc => by have := ltk_r1 b hb; omega)
        have np47 : b23 ∉ blks r42 := fun hc => (ab_r42 _ hc).elim (fun hc => by have := lt_w _ hc; omega) (fun hc => by omega)
        have lt_r42 := s_r42.lt
        refine s_pure r42 (fun _ q => q) ?_
        refine s_nil ?_
        refine p_blkN ?_
        refine p_seqN ?_
        refine v_ops ?_
        refine s_pure (.int .i64 ((k : Int) + 1)) (fun _ q => ArithVC.mk (by omega) q) ?_
        refine s_pure (.int .i64 ((k : Int) + 1)) (fun _ q => q) ?_
        refine s_nil ?_
        have f48 := (f36.mod mh43 np_r1_w)
        exact p_lpN ⟨k + 1, (o ++ x38.sig), r42, ⟨rfl, rfl, rfl, rfl⟩, ⟨E44, f48, (sl_eq s_r42 (by simp)), (fr_r42.mono (by omega)), np46, (by exact ⟨by omega, jt_step ho (by assumption) (miss_all (n := k) hx14 hmiss (by omega))⟩)⟩, by omega⟩
      ·
        refine v_exit ?_
        refine p_seqX ?_
        refine p_lpX ?_
        refine p_blkX ?_
        refine p_seqN ?_
        refine v_seq ?_
        refine v_ops ?_
        refine s_pure w (fun _ q => q) ?_
        refine s_pure w (fun _ q => q) ?_
        refine s_pure (.bool true) (fun _ q => q) ?_
        refine s_nil ?_
        refine p_seqN ?_
        refine v_ret ?_
        refine p_ret [w, .bool true] (.tuple #[w, .bool true]) (fun _ q => q) rfl ?_
        have ho : jnOut (l.map Pk.p) m = (o, true) := by rw [jn_yes (by assumption) (by omega), ho, ← (by assumption : qr1.map Pk.p = (pkfOut (l.map Pk.p) m).1), parts_at hx14]; rw [show x14.parts.toNat = k by omega]
        exact ⟨w, by first | (rw [ho]; done) | rfl, sl_eq s_w (congrArg (fun o => o.1) ho).symm, fr_w.mono (by omega), Eh⟩


theorem any_hit {ps : List Pk} {j : Nat} {y : Pk} {p : Pk → Bool} (hy : ps[j]? = some y) (h : p y = true) : ps.any p = true := List.any_eq_true.2 ⟨y, List.mem_of_getElem? hy, h⟩
theorem jk_f {l : List PkP} {m : Int} (hok : PksOk l) (hm : 1 ≤ m ∧ m ≤ 999) (h2 : (pkoOut l m).2 = true) : (pkfOut l m).1 = (pkoOut l m).1 ∧ ((pkfOut l m).2 = true ↔ 0 < (pkoOut l m).1.length) := by
  rw [pkf_of hok hm h2]; simp
theorem jk_no0 {l : List PkP} {m : Int} (h : ¬ (pkoOut l m).2 = true) : jnOut l m = ([], false) ∧ msOut l m = ([], false) := ⟨jn_no fun c => pkf_of0 h c.1, ms_no (pkf_of0 h)⟩
theorem jk_no1 {l : List PkP} {m : Int} {q : List Pk} (hok : PksOk l) (hm : 1 ≤ m ∧ m ≤ 999) (h2 : (pkoOut l m).2 = true) (hq : q.map Pk.p = (pkoOut l m).1) (h0 : (q.length : Int) = 0) : jnOut l m = ([], false) ∧ msOut l m = ([], false) := by
  have e := (jk_f hok hm h2).2
  rw [← hq, List.length_map] at e
  exact ⟨jn_no fun c => by have := e.1 c.1; omega, ms_no fun c => by have := e.1 c; omega⟩
theorem jk_no2 {l : List PkP} {m : Int} (hok : PksOk l) (hm : 1 ≤ m ∧ m ≤ 999) (h2 : (pkoOut l m).2 = true) (h0 : ((missOf (pkoOut l m).1).length : Int) > 0) : jnOut l m = ([], false) := jn_no fun c => by
  have := c.2
  rw [(jk_f hok hm h2).1] at this; omega
theorem mk_yes {l : List PkP} {m : Int} {q : List Pk} (hok : PksOk l) (hm : 1 ≤ m ∧ m ≤ 999) (h2 : (pkoOut l m).2 = true) (hq : q.map Pk.p = (pkoOut l m).1) (h0 : ¬ (q.length : Int) = 0) : msOut l m = (missOf (pkoOut l m).1, true) := by
  have e := jk_f hok hm h2
  rw [ms_yes (e.2.2 (by rw [← hq, List.length_map]; omega)), e.1]
theorem jk_yes {l : List PkP} {m : Int} {q : List Pk} {x : Pk} {k : Nat} {o : List Int} (hok : PksOk l) (hm : 1 ≤ m ∧ m ≤ 999) (h2 : (pkoOut l m).2 = true) (hq : q.map Pk.p = (pkoOut l m).1) (h0 : ¬ (q.length : Int) = 0) (hms : ¬ ((missOf (pkoOut l m).1).length : Int) > 0) (hx : q[0]? = some x) (ho : o = joinTo (q.map Pk.p) k) (hk : (k : Int) ≤ x.parts) (hk2 : ¬ (k : Int) < x.parts) : jnOut l m = (o, true) := by
  have e := jk_f hok hm h2
  have h3 : 0 < (pkoOut l m).1.length := by rw [← hq, List.length_map]; omega
  rw [jn_yes (e.2.2 h3) (by rw [e.1]; omega), e.1, ← hq, parts_at hx, ho]
  congr 2; omega

set_option maxRecDepth 10000 in
set_option maxHeartbeats 4000000 in
theorem spec_pkOf_ok (v_l : Value) (l : List Pk) (d_l : List (PkP)) (m : Int) (h : Heap) (s_l : Sl h v_l l) (in_l : ∀ p ∈ l, Sl h p.sv.v p.sig) (hd_l : l.map Pk.p = d_l) (hok : PksOk d_l) : Cn f_spec_pkOf [v_l, .int .i64 m] h fun v h' => ∃ r0 : Value, ∃ qr0 : List Pk, v = .tuple #[r0, .bool ((pkoOut d_l m).2)] ∧ SlO h' r0 qr0 ∧ Fr h.size r0 ∧ (∀ p ∈ qr0, p ∈ l) ∧ qr0.map Pk.p = (pkoOut d_l m).1 ∧ Ext h h' := by
  subst hd_l
  have lt_l := s_l.lt
  have l63_l := s_l.len63
  have inlt_l := fun p hp => (in_l p hp).lt
  refine calls_of r_spec_pkOf ?_
  refine v_seq ?_
  refine v_ops ?_
  refine s_pure (.slice none 0 0) (fun _ q => q) ?_
  refine s_pure (.bool false) (fun _ q => q) ?_
  refine s_nil ?_
  refine p_seqN ?_
  refine v_seq ?_
  refine v_ops ?_
  refine s_pure (.slice none 0 0) (fun _ q => q) ?_
  refine s_nil ?_
  refine p_seqN ?_
  refine v_seq ?_
  refine v_seq ?_
  refine v_ops ?_
  refine s_pure v_l (fun _ q => q) ?_
  refine s_pure (.int .i64 (l.length : Int)) (fun _ q => s_l.lenVC q) ?_
  refine s_pure (.int .i64 0) (fun _ q => q) ?_
  refine s_nil ?_
  refine p_seqN ?_
  refine v_block ?_
  have hl40 : l.length ≤ 40 := by (have h4 := hok.1); simpa using h4
  refine v_loop3 (α := Nat) (β := List Pk) (γ := Value) (fun k ps o => [(1, .int .i64 m), (6, o), (11, v_l), (12, .int .i64 (l.length : Int)), (13, .int .i64 (k : Int))]) (fun k ps o hh => Ext h hh ∧ SlO hh o ps ∧ Fr h.size o ∧ k ≤ l.length ∧ (∀ p ∈ ps, p ∈ l) ∧ ofL ((l.map Pk.p).take k) m = some (ps.map Pk.p)) (fun k ps o => l.length - k) 0 [] (.slice none 0 0) ⟨rfl, rfl, rfl, rfl, rfl⟩ ⟨(Ext.refl h), (sl_eq (SlX.nil (α := Pk) true h) (by simp)), (Fr.nil _), (by simp [ofL])⟩ ?_
  rintro k ps o R2 h1 ⟨Eh, s_o, fr_o, ⟨hk, hsub, hof⟩⟩
  have zEh := Eh.size
  have f4 := s_l.ext Eh
  have in5 := fun p hp => (in_l p hp).ext Eh
  have lt_o := s_o.lt
  have hpl := own_le hof hl40
  refine v_seq ?_
  refine v_ops ?_
  refine s_pure (.bool (decide ((k : Int) < (l.length : Int)))) (fun _ q => q) ?_
  refine s_nil ?_
  refine p_seqN ?_
  refine v_seq ?_
  refine v_cond rfl (fun c6 => ?_) (fun c6 => ?_)
  ·
    refine v_skip ?_
    refine p_seqN ?_
    refine v_seq ?_
    refine v_block ?_
    refine v_seq ?_
    refine v_ops ?_
    have hk7 : k < l.length := (by first | omega | (simp; omega))
    obtain ⟨x8, hx8⟩ : ∃ x, l[k]? = some x := ⟨_, List.getElem?_eq_getElem hk7⟩
    refine s_pure (.pointer (some ⟨sblk v_l, soff v_l + k * 4, none⟩)) (fun _ q => f4.idx (k := k) rfl hk7 q) ?_
    have s9 := in5 x8 (List.mem_of_getElem? hx8)
    refine s_load (.agg #[.int .i64 x8.message, .int .i64 x8.part, .int .i64 x8.parts, x8.sv.v]) (fun _ q => f4.loadN hx8 rfl q) ?_
    refine s_new (fun h11 b10 hbb10 hzb10 eh11 bxb10 => ?_)
    have E12 := Eh.trans eh11
    have z13 := eh11.size
    have lbb10 := bxb10.lt
    refine s_stBx (.agg #[.int .i64 x8.message, .int .i64 x8.part, .int .i64 x8.parts, x8.sv.v]) [.int .i64 x8.message, .int .i64 x8.part, .int .i64 x8.parts, x8.sv.v] [.int .i64 x8.message, .int .i64 x8.part, .int .i64 x8.parts, x8.sv.v] bxb10 rfl rfl rfl rfl (by simp) (all_cons rfl (all_cons rfl (all_cons rfl (all_cons s9.one1 all_nil)))) rfl (fun h14 mh14 sh14 bxx15 => ?_)
    have E16 := E12.mod mh14 (fun b hb => by simp at hb; omega)
    refine s_nil ?_
    refine p_seqN ?_
    refine v_seq ?_
    refine v_seq ?_
    refine v_ops ?_
    refine s_pure (.pointer (some ⟨b10, 0, none⟩)) (fun _ q => q) ?_
    refine s_load (.int .i64 x8.message) (fun _ q => bxx15.load rfl q) ?_
    refine s_pure (.int .i64 m) (fun _ q => q) ?_
    refine s_pure (.bool (x8.message != m)) (fun _ q => q) ?_
    refine s_nil ?_
    refine p_seqN ?_
    refine v_cond rfl (fun c17 => ?_) (fun c17 => ?_)
    ·
      refine v_exit ?_
      refine p_seqX ?_
      refine p_blkX ?_
      refine p_seqN ?_
      refine v_ops ?_
      refine s_pure (.int .i64 ((k : Int) + 1)) (fun _ q => ArithVC.mk (by omega) q) ?_
      refine s_pure (.int .i64 ((k : Int) + 1)) (fun _ q => q) ?_
      refine s_nil ?_
      have f18 := ((s_o.ext eh11).mod mh14 (fun b hb hc => by simp at hc; have := lt_o b hb; omega))
      exact p_lpN ⟨k + 1, ps, o, ⟨rfl, rfl, rfl, rfl, rfl⟩, ⟨E16, (sl_eq f18 (by simp)), (fr_o.mono (by omega)), (by first | exact ⟨by omega, hsub, of_skip hof (by assumption) (by assumption)⟩ | ((rw [take_all (by assumption)] at hdb); exact ⟨by omega, (fun p hp => by (rcases List.mem_append.1 hp with hp | hp); exact hsub p hp; (obtain rfl := List.mem_singleton.1 hp); exact List.mem_of_getElem? (by assumption)), of_add (x := x8) hof (by assumption) (by omega) (by rw [hdb]; simp)⟩))⟩, by omega⟩
    ·
      have c17 := Classical.not_not.1 c17
      refine v_skip ?_
      refine p_seqN ?_
      refine v_seq ?_
      refine v_seq ?_
      refine v_ops ?_
      refine s_pure o (fun _ q => q) ?_
      refine s_pure (.int .i64 (ps.length : Int)) (fun _ q => s_o.lenVC q) ?_
      refine s_pure (.int .i64 0) (fun _ q => q) ?_
      refine s_nil ?_
      refine p_seqN ?_
      refine v_block ?_
      have nk20 : b10 ∉ blks o := (fun hc => by have := lt_o _ hc; omega)
      have f21 := ((s_o.ext eh11).mod mh14 (fun b hb hc => by simp at hc; have := lt_o b hb; omega))
      refine v_loop1 (α := Nat) (fun j => [(1, .int .i64 m), (6, o), (8, .pointer (some ⟨b10, 0, none⟩)), (11, v_l), (12, .int .i64 (l.length : Int)), (13, .int .i64 (k : Int)), (21, o), (22, .int .i64 (ps.length : Int)), (23, .int .i64 (j : Int))]) (fun j hh => Ext h hh ∧ Bx hh b10 [.int .i64 x8.message, .int .i64 x8.part, .int .i64 x8.parts, x8.sv.v] 32 ∧ SlO hh o ps ∧ j ≤ ps.length ∧ (ps.take j).any (fun y => decide (clash x8.p y.p)) = false) (fun j => ps.length - j) 0 ⟨rfl, rfl, rfl, rfl, rfl, rfl, rfl, rfl, rfl⟩ ⟨E16, bxx15, f21, (by simp)⟩ ?_
      rintro j R22 h19 ⟨Eh, bxb10, s_o, ⟨hj, hdb⟩⟩
      have zEh := Eh.size
      have f24 := s_l.ext Eh
      have in25 := fun p hp => (in_l p hp).ext Eh
      have ltk_o := s_o.lt
      have lbb10 := bxb10.lt
      have s26 := in25 x8 (List.mem_of_getElem? hx8)
      refine v_seq ?_
      refine v_ops ?_
      refine s_pure (.bool (decide ((j : Int) < (ps.length : Int)))) (fun _ q => q) ?_
      refine s_nil ?_
      refine p_seqN ?_
      refine v_seq ?_
      refine v_cond rfl (fun c27 => ?_) (fun c27 => ?_)
      ·
        refine v_skip ?_
        refine p_seqN ?_
        refine v_seq ?_
        refine v_block ?_
        refine v_seq ?_
        refine v_ops ?_
        have hk28 : j < ps.length := (by first | omega | (simp; omega))
        obtain ⟨x29, hx29⟩ : ∃ x, ps[j]? = some x := ⟨_, List.getElem?_eq_getElem hk28⟩
        refine s_pure (.pointer (some ⟨sblk o, soff o + j * 4, none⟩)) (fun _ q => s_o.idx (k := j) rfl hk28 q) ?_
        have s30 := (fun p hp => in25 p (hsub p hp)) x29 (List.mem_of_getElem? hx29)
        refine s_load (.agg #[.int .i64 x29.message, .int .i64 x29.part, .int .i64 x29.parts, x29.sv.v]) (fun _ q => s_o.loadN hx29 rfl q) ?_
        refine s_new (fun h32 b31 hbb31 hzb31 eh32 bxb31 => ?_)
        have E33 := Eh.trans eh32
        have z34 := eh32.size
        have lbb31 := bxb31.lt
        refine s_stBx (.agg #[.int .i64 x29.message, .int .i64 x29.part, .int .i64 x29.parts, x29.sv.v]) [.int .i64 x29.message, .int .i64 x29.part, .int .i64 x29.parts, x29.sv.v] [.int .i64 x29.message, .int .i64 x29.part, .int .i64 x29.parts, x29.sv.v] bxb31 rfl rfl rfl rfl (by simp) (all_cons rfl (all_cons rfl (all_cons rfl (all_cons s30.one1 all_nil)))) rfl (fun h35 mh35 sh35 bxx36 => ?_)
        have E37 := E33.mod mh35 (fun b hb => by simp at hb; omega)
        refine s_nil ?_
        refine p_seqN ?_
        refine v_seq ?_
        refine v_ops ?_
        have f38 := ((bxb10.ext eh32).mod mh35 (by simp; omega))
        refine s_load (.agg #[.int .i64 x8.message, .int .i64 x8.part, .int .i64 x8.parts, x8.sv.v]) (fun _ q => f38.loadA rfl q) ?_
        refine s_load (.agg #[.int .i64 x29.message, .int .i64 x29.part, .int .i64 x29.parts, x29.sv.v]) (fun _ q => bxx36.loadA rfl q) ?_
        have f39 := ((s26.ext eh32).mod mh35 (fun b hb hc => by simp at hc; have := (inlt_l x8 (List.mem_of_getElem? hx8)) b hb; omega))
        have f40 := ((s30.ext eh32).mod mh35 (fun b hb hc => by simp at hc; have := ((fun p hp => inlt_l p (hsub p hp)) x29 (List.mem_of_getElem? hx29)) b hb; omega))
        refine s_call [.agg #[.int .i64 x8.message, .int .i64 x8.part, .int .i64 x8.parts, x8.sv.v], .agg #[.int .i64 x29.message, .int .i64 x29.part, .int .i64 x29.parts, x29.sv.v]] rfl (spec_pkClash_ok (Pk.p x8) x8.sv.v (Pk.p x29) x29.sv.v _ f39 f40) ?_
        rintro _ h41 ⟨rfl, eh41⟩
        have E42 := E37.trans eh41
        have z43 := eh41.size
        refine s_nil ?_
        refine p_seqN ?_
        refine v_cond rfl (fun c44 => ?_) (fun c44 => ?_)
        ·
          refine v_seq ?_
          refine v_ops ?_
          refine s_pure (.slice none 0 0) (fun _ q => q) ?_
          refine s_pure (.bool false) (fun _ q => q) ?_
          refine s_nil ?_
          refine p_seqN ?_
          refine v_ret ?_
          refine p_blkR ?_
          refine p_seqR ?_
          refine p_lpR ?_
          refine p_blkR ?_
          refine p_seqR ?_
          refine p_blkR ?_
          refine p_seqR ?_
          refine p_lpR ?_
          refine p_blkR ?_
          refine p_seqR ?_
          refine p_ret [.slice none 0 0, .bool false] (.tuple #[.slice none 0 0, .bool false]) (fun _ q => q) rfl ?_
          have ho : pkoOut (l.map Pk.p) m = ([], false) := by first | exact pko_bad (of_bad hof (by assumption : l[k]? = some _) (by omega) (any_hit (by assumption : ps[j]? = some _) (decide_eq_true (by assumption)))) | exact pko_yes (of_end hof (by assumption))
          exact ⟨(.slice none 0 0), [], by first | (rw [ho]; done) | rfl, (SlX.nil (α := Pk) true _), (Fr.nil _), (fun p hp => by simp at hp), (congrArg (fun o => o.1) ho).symm, E42⟩
        ·
          refine v_skip ?_
          refine p_blkN ?_
          refine p_seqN ?_
          refine v_ops ?_
          refine s_pure (.int .i64 ((j : Int) + 1)) (fun _ q => ArithVC.mk (by omega) q) ?_
          refine s_pure (.int .i64 ((j : Int) + 1)) (fun _ q => q) ?_
          refine s_nil ?_
          have f45 := (f38.ext eh41)
          have f46 := (((s_o.ext eh32).mod mh35 (fun b hb hc => by simp at hc; have := ltk_o b hb; have := lt_o b hb; omega)).ext eh41)
          exact p_lpN ⟨j + 1, ⟨rfl, rfl, rfl, rfl, rfl, rfl, rfl, rfl, rfl⟩, ⟨E42, f45, f46, (by exact ⟨by omega, by rw [any_snoc (by assumption), hdb, decide_eq_false (by assumption)]; rfl⟩)⟩, by omega⟩
      ·
        refine v_exit ?_
        refine p_seqX ?_
        refine p_lpX ?_
        refine p_blkX ?_
        refine p_seqN ?_
        refine v_ops ?_
        refine s_pure o (fun _ q => q) ?_
        refine s_load (.agg #[.int .i64 x8.message, .int .i64 x8.part, .int .i64 x8.parts, x8.sv.v]) (fun _ q => bxb10.loadA rfl q) ?_
        refine s_row (α := Pk) [(⟨x8.message, x8.part, x8.parts, x8.sv, x8.sig⟩ : Pk)] (fun _ q => seg_agg rfl rfl (seg_nil q)) rfl (by simp [maxLen]) (fun r47 h48 eh48 zh48 s_r47 fr_r47 => ?_)
        have E49 := Eh.trans eh48
        have z50 := eh48.size
        have lt_r47 := s_r47.lt
        have f51 := (s_o.ext eh48)
        refine s_app f51 s_r47 rfl rfl rfl (by simp [maxLen]; omega) (by simp; omega) (fun r52 h53 mh53 zh53 s_r52 ab_r52 => ?_)
        have E54 := E49.mod mh53 (fun b hb => by have := fr_o b hb; omega)
        have fr_r52 := fr_o.app ab_r52 (by omega)
        have np55 : b10 ∉ blks r52 := fun hc => (ab_r52 _ hc).elim nk20 (fun hc => by omega)
        have np56 : ∀ b ∈ blks r47, b ∉ blks r52 := fun b hb hc => (ab_r52 _ hc).elim (((fun b hb hc => by have := fr_r47 b hb; have := ltk_o b hc; have := lt_o b hc; omega) : ∀ b ∈ blks r47, b ∉ blks o) b hb) (fun hc => by have := lt_r47 b hb; omega)
        have lt_r52 := s_r52.lt
        refine s_pure r52 (fun _ q => q) ?_
        refine s_nil ?_
        refine p_blkN ?_
        refine p_seqN ?_
        refine v_ops ?_
        refine s_pure (.int .i64 ((k : Int) + 1)) (fun _ q => ArithVC.mk (by omega) q) ?_
        refine s_pure (.int .i64 ((k : Int) + 1)) (fun _ q => q) ?_
        refine s_nil ?_
        exact p_lpN ⟨k + 1, (ps ++ [(⟨x8.message, x8.part, x8.parts, x8.sv, x8.sig⟩ : Pk)]), r52, ⟨rfl, rfl, rfl, rfl, rfl⟩, ⟨E54, (sl_eq s_r52 (by simp)), (fr_r52.mono (by omega)), (by first | exact ⟨by omega, hsub, of_skip hof (by assumption) (by assumption)⟩ | ((rw [take_all (by assumption)] at hdb); exact ⟨by omega, (fun p hp => by (rcases List.mem_append.1 hp with hp | hp); exact hsub p hp; (obtain rfl := List.mem_singleton.1 hp); exact List.mem_of_getElem? (by assumption)), of_add (x := x8) hof (by assumption) (by omega) (by rw [hdb]; simp)⟩))⟩, by omega⟩
  ·
    refine v_exit ?_
    refine p_seqX ?_
    refine p_lpX ?_
    refine p_blkX ?_
    refine p_seqN ?_
    refine v_seq ?_
    refine v_ops ?_
    refine s_pure o (fun _ q => q) ?_
    refine s_pure o (fun _ q => q) ?_
    refine s_pure (.bool true) (fun _ q => q) ?_
    refine s_nil ?_
    refine p_seqN ?_
    refine v_ret ?_
    refine p_ret [o, .bool true] (.tuple #[o, .bool true]) (fun _ q => q) rfl ?_
    have ho : pkoOut (l.map Pk.p) m = ((ps.map Pk.p), true) := by first | exact pko_bad (of_bad hof (by assumption : l[k]? = some _) (by omega) (any_hit (by assumption : ps[j]? = some _) (decide_eq_true (by assumption)))) | exact pko_yes (of_end hof (by assumption))
    exact ⟨o, ps, by first | (rw [ho]; done) | rfl, s_o, (fr_o.mono (by omega)), hsub, (congrArg (fun o => o.1) ho).symm, Eh⟩

theorem spec_pkPart_ok (v_own : Value) (own : List Pk) (part : Int) (h : Heap) (s_own : Sl h v_own own) (in_own : ∀ p ∈ own, Sl h p.sv.v p.sig) : Cn f_spec_pkPart [v_own, .int .i64 part] h fun v h' => v = .int .i64 (firstF (fun x : Pk => decide (x.p.part = part)) own 0) ∧ Ext h h' := by
  have lt_own := s_own.lt
  have l63_own := s_own.len63
  have inlt_own := fun p hp => (in_own p hp).lt
  refine calls_of r_spec_pkPart ?_
  refine v_seq ?_
  refine v_ops ?_
  refine s_pure (.int .i64 0) (fun _ q => q) ?_
  refine s_nil ?_
  refine p_seqN ?_
  refine v_seq ?_
  refine v_seq ?_
  refine v_ops ?_
  refine s_pure v_own (fun _ q => q) ?_
  refine s_pure (.int .i64 (own.length : Int)) (fun _ q => s_own.lenVC q) ?_
  refine s_pure (.int .i64 0) (fun _ q => q) ?_
  refine s_nil ?_
  refine p_seqN ?_
  refine v_block ?_
  refine v_loop1 (α := Nat) (fun k => [(1, .int .i64 part), (7, v_own), (8, .int .i64 (own.length : Int)), (9, .int .i64 (k : Int))]) (fun k hh => Ext h hh ∧ k ≤ own.length ∧ firstF (fun x : Pk => decide (x.p.part = part)) own 0 = firstF (fun x : Pk => decide (x.p.part = part)) (own.drop k) k) (fun k => own.length - k) 0 ⟨rfl, rfl, rfl, rfl⟩ ⟨(Ext.refl h), (by simp)⟩ ?_
  rintro k R2 h1 ⟨Eh, ⟨hk, hF⟩⟩
  have zEh := Eh.size
  have f4 := s_own.ext Eh
  have in5 := fun p hp => (in_own p hp).ext Eh
  refine v_seq ?_
  refine v_ops ?_
  refine s_pure (.bool (decide ((k : Int) < (own.length : Int)))) (fun _ q => q) ?_
  refine s_nil ?_
  refine p_seqN ?_
  refine v_seq ?_
  refine v_cond rfl (fun c6 => ?_) (fun c6 => ?_)
  ·
    refine v_skip ?_
    refine p_seqN ?_
    refine v_seq ?_
    refine v_block ?_
    refine v_seq ?_
    refine v_ops ?_
    refine s_pure (.int .i64 (k : Int)) (fun _ q => q) ?_
    have hk7 : k < own.length := (by first | omega | (simp; omega))
    obtain ⟨x8, hx8⟩ : ∃ x, own[k]? = some x := ⟨_, List.getElem?_eq_getElem hk7⟩
    refine s_pure (.pointer (some ⟨sblk v_own, soff v_own + k * 4, none⟩)) (fun _ q => f4.idx (k := k) rfl hk7 q) ?_
    have s9 := in5 x8 (List.mem_of_getElem? hx8)
    refine s_load (.agg #[.int .i64 x8.message, .int .i64 x8.part, .int .i64 x8.parts, x8.sv.v]) (fun _ q => f4.loadN hx8 rfl q) ?_
    refine s_new (fun h11 b10 hbb10 hzb10 eh11 bxb10 => ?_)
    have E12 := Eh.trans eh11
    have z13 := eh11.size
    have lbb10 := bxb10.lt
    refine s_pure (.int .i64 (k : Int)) (fun _ q => q) ?_
    refine s_stBx (.agg #[.int .i64 x8.message, .int .i64 x8.part, .int .i64 x8.parts, x8.sv.v]) [.int .i64 x8.message, .int .i64 x8.part, .int .i64 x8.parts, x8.sv.v] [.int .i64 x8.message, .int .i64 x8.part, .int .i64 x8.parts, x8.sv.v] bxb10 rfl rfl rfl rfl (by simp) (all_cons rfl (all_cons rfl (all_cons rfl (all_cons s9.one1 all_nil)))) rfl (fun h14 mh14 sh14 bxx15 => ?_)
    have E16 := E12.mod mh14 (fun b hb => by simp at hb; omega)
    refine s_nil ?_
    refine p_seqN ?_
    refine v_seq ?_
    refine v_ops ?_
    refine s_pure (.pointer (some ⟨b10, 1, none⟩)) (fun _ q => q) ?_
    refine s_load (.int .i64 x8.part) (fun _ q => bxx15.load rfl q) ?_
    refine s_pure (.int .i64 part) (fun _ q => q) ?_
    refine s_pure (.bool (x8.part == part)) (fun _ q => q) ?_
    refine s_nil ?_
    refine p_seqN ?_
    refine v_cond rfl (fun c17 => ?_) (fun c17 => ?_)
    ·
      refine v_seq ?_
      refine v_ops ?_
      refine s_pure (.int .i64 (k : Int)) (fun _ q => q) ?_
      refine s_pure (.int .i64 (k : Int)) (fun _ q => q) ?_
      refine s_nil ?_
      refine p_seqN ?_
      refine v_ret ?_
      refine p_blkR ?_
      refine p_seqR ?_
      refine p_lpR ?_
      refine p_blkR ?_
      refine p_seqR ?_
      refine p_ret [.int .i64 (k : Int)] (.int .i64 (k : Int)) (fun _ q => q) rfl ?_
      have ho : firstF (fun x : Pk => decide (x.p.part = part)) own 0 = (k : Int) := by first | (rw [hF, drop_at (by assumption), firstF, decide_eq_true (by assumption)]; rfl) | (rw [hF, List.drop_of_length_le (by omega), firstF])
      exact ⟨by first | (rw [ho]; done) | rfl, E16⟩
    ·
      refine v_skip ?_
      refine p_blkN ?_
      refine p_seqN ?_
      refine v_ops ?_
      refine s_pure (.int .i64 ((k : Int) + 1)) (fun _ q => ArithVC.mk (by omega) q) ?_
      refine s_pure (.int .i64 ((k : Int) + 1)) (fun _ q => q) ?_
      refine s_nil ?_
      exact p_lpN ⟨k + 1, ⟨rfl, rfl, rfl, rfl⟩, ⟨E16, (by exact ⟨by omega, by rw [hF, drop_at (by assumption), firstF, decide_eq_false (by assumption)]; rfl⟩)⟩, by omega⟩
  ·
    refine v_exit ?_
    refine p_seqX ?_
    refine p_lpX ?_
    refine p_blkX ?_
    refine p_seqN ?_
    refine v_seq ?_
    refine v_ops ?_
    refine s_pure (.int .i64 (-1)) (fun _ q => q) ?_
    refine s_nil ?_
    refine p_seqN ?_
    refine v_ret ?_
    refine p_ret [.int .i64 (-1)] (.int .i64 (-1)) (fun _ q => q) rfl ?_
    have ho : firstF (fun x : Pk => decide (x.p.part = part)) own 0 = (-1) := by first | (rw [hF, drop_at (by assumption), firstF, decide_eq_true (by assumption)]; rfl) | (rw [hF, List.drop_of_length_le (by omega), firstF])
    exact ⟨by first | (rw [ho]; done) | rfl, Eh⟩

theorem spec_pkMissing_ok (v_own : Value) (own : List Pk) (d_own : List (PkP)) (h : Heap) (s_own : Sl h v_own own) (in_own : ∀ p ∈ own, Sl h p.sv.v p.sig) (hd_own : own.map Pk.p = d_own) (hne : 0 < own.length) (hpp : ∀ p ∈ own, p.sig.length ≤ 8 ∧ 1 ≤ p.parts ∧ p.parts ≤ 9) : Cn f_spec_pkMissing [v_own] h fun v h' => ∃ r0 : Value, v = r0 ∧ SlO h' r0 (missOf d_own) ∧ Fr h.size r0 ∧ Ext h h' := by
  subst hd_own
  have lt_own := s_own.lt
  have l63_own := s_own.len63
  have inlt_own := fun p hp => (in_own p hp).lt
  refine calls_of r_spec_pkMissing ?_
  refine v_seq ?_
  refine v_ops ?_
  refine s_pure (.slice none 0 0) (fun _ q => q) ?_
  refine s_nil ?_
  refine p_seqN ?_
  refine v_seq ?_
  refine v_ops ?_
  refine s_pure (.slice none 0 0) (fun _ q => q) ?_
  refine s_nil ?_
  refine p_seqN ?_
  refine v_seq ?_
  refine v_seq ?_
  refine v_ops ?_
  refine s_pure (.int .i64 0) (fun _ q => q) ?_
  refine s_nil ?_
  refine p_seqN ?_
  refine v_block ?_
  obtain ⟨x0_, hx0_⟩ : ∃ x, own[0]? = some x := ⟨_, List.getElem?_eq_getElem hne⟩
  have hp0 := hpp x0_ (List.mem_of_getElem? hx0_)
  have hx0e : ∀ y, own[0]? = some y → y = x0_ := fun y hy => Option.some.inj (hy.symm.trans hx0_)
  refine v_loop3 (α := Nat) (β := List Int) (γ := Value) (fun k o w => [(0, v_own), (3, w), (4, .int .i64 (k : Int))]) (fun k o w hh => Ext h hh ∧ SlO hh w o ∧ Fr h.size w ∧ (k : Int) ≤ x0_.parts ∧ o = missTo (own.map Pk.p) k) (fun k o w => x0_.parts.toNat - k) 0 [] (.slice none 0 0) ⟨rfl, rfl, rfl⟩ ⟨(Ext.refl h), (sl_eq (SlX.nil (α := Int) true h) (by simp)), (Fr.nil _), (by exact ⟨by omega, rfl⟩)⟩ ?_
  rintro k o w R2 h1 ⟨Eh, s_w, fr_w, ⟨hk, ho⟩⟩
  have zEh := Eh.size
  have f4 := s_own.ext Eh
  have in5 := fun p hp => (in_own p hp).ext Eh
  have lt_w := s_w.lt
  have hol := miss_len (own.map Pk.p) k
  rw [← ho] at hol
  refine v_seq ?_
  refine v_seq ?_
  refine v_ops ?_
  refine s_pure (.int .i64 (k : Int)) (fun _ q => q) ?_
  refine s_pure v_own (fun _ q => q) ?_
  have hk6 : 0 < own.length := (by first | omega | (simp; omega))
  obtain ⟨x7, hx7⟩ : ∃ x, own[0]? = some x := ⟨_, List.getElem?_eq_getElem hk6⟩
  refine s_pure (.pointer (some ⟨sblk v_own, soff v_own + 0 * 4, none⟩)) (fun _ q => f4.idx (k := 0) rfl hk6 q) ?_
  refine s_pure (.pointer (some ⟨sblk v_own, soff v_own + 0 * 4 + 2, none⟩)) (fun _ q => q) ?_
  have s8 := in5 x7 (List.mem_of_getElem? hx7)
  refine s_load (.int .i64 x7.parts) (fun _ q => f4.load hx7 (j := 2) rfl rfl q) ?_
  refine s_pure (.bool (decide ((k : Int) < x7.parts))) (fun _ q => q) ?_
  refine s_nil ?_
  refine p_seqN ?_
  refine v_cond rfl (fun c9 => ?_) (fun c9 => ?_)
  ·
    refine v_skip ?_
    refine p_seqN ?_
    refine v_seq ?_
    refine v_block ?_
    refine v_seq ?_
    refine v_ops ?_
    refine s_pure v_own (fun _ q => q) ?_
    refine s_pure (.int .i64 (k : Int)) (fun _ q => q) ?_
    refine s_call [v_own, .int .i64 (k : Int)] rfl (spec_pkPart_ok v_own own (k : Int) _ f4 in5) ?_
    rintro _ h10 ⟨rfl, eh10⟩
    have E11 := Eh.trans eh10
    have z12 := eh10.size
    refine s_pure (.bool (decide (firstF (fun x : Pk => decide (x.p.part = (k : Int))) own 0 < 0))) (fun _ q => q) ?_
    refine s_nil ?_
    refine p_seqN ?_
    refine v_cond rfl (fun c13 => ?_) (fun c13 => ?_)
    ·
      refine v_ops ?_
      refine s_pure w (fun _ q => q) ?_
      refine s_pure (.int .i64 (k : Int)) (fun _ q => q) ?_
      refine s_row (α := Int) [(k : Int)] (fun _ q => seg_i rfl (seg_nil q)) rfl (by simp [maxLen]) (fun r14 h15 eh15 zh15 s_r14 fr_r14 => ?_)
      have E16 := E11.trans eh15
      have z17 := eh15.size
      have lt_r14 := s_r14.lt
      have f18 := ((s_w.ext eh10).ext eh15)
      refine s_app f18 s_r14 rfl rfl rfl (by simp [maxLen]; omega) (by simp; omega) (fun r19 h20 mh20 zh20 s_r19 ab_r19 => ?_)
      have E21 := E16.mod mh20 (fun b hb => by have := fr_w b hb; omega)
      have fr_r19 := fr_w.app ab_r19 (by omega)
      have np22 : ∀ b ∈ blks r14, b ∉ blks r19 := fun b hb hc => (ab_r19 _ hc).elim (((fun b hb hc => by have := fr_r14 b hb; have := lt_w b hc; omega) : ∀ b ∈ blks r14, b ∉ blks w) b hb) (fun hc => by have := lt_r14 b hb; omega)
      have lt_r19 := s_r19.lt
      refine s_pure r19 (fun _ q => q) ?_
      refine s_nil ?_
      refine p_blkN ?_
      refine p_seqN ?_
      refine v_ops ?_
      refine s_pure (.int .i64 (k : Int)) (fun _ q => q) ?_
      refine s_pure (.int .i64 ((k : Int) + 1)) (fun _ q => ArithVC.mk (by (have hxe := hx0e _ (by assumption)); (have hxp := congrArg Pk.parts hxe); omega) q) ?_
      refine s_pure (.int .i64 ((k : Int) + 1)) (fun _ q => q) ?_
      refine s_nil ?_
      exact p_lpN ⟨k + 1, (o ++ [(k : Int)]), r19, ⟨rfl, rfl, rfl⟩, ⟨E21, (sl_eq s_r19 (by simp)), (fr_r19.mono (by omega)), (by (have hxe := hx0e _ (by assumption : own[0]? = some x7)); (have hxp := congrArg Pk.parts hxe); first | exact ⟨by omega, mt_in ho (fun hc => by (have := any_first.2 hc); omega)⟩ | exact ⟨by omega, mt_out ho (any_first.1 (by omega))⟩)⟩, by (have hxe := hx0e _ (by assumption : own[0]? = some x7)); (have hxp := congrArg Pk.parts hxe); omega⟩
    ·
      refine v_skip ?_
      refine p_blkN ?_
      refine p_seqN ?_
      refine v_ops ?_
      refine s_pure (.int .i64 (k : Int)) (fun _ q => q) ?_
      refine s_pure (.int .i64 ((k : Int) + 1)) (fun _ q => ArithVC.mk (by (have hxe := hx0e _ (by assumption)); (have hxp := congrArg Pk.parts hxe); omega) q) ?_
      refine s_pure (.int .i64 ((k : Int) + 1)) (fun _ q => q) ?_
      refine s_nil ?_
      have f23 := (s_w.ext eh10)
      exact p_lpN ⟨k + 1, o, w, ⟨rfl, rfl, rfl⟩, ⟨E11, (sl_eq f23 (by simp)), (fr_w.mono (by omega)), (by (have hxe := hx0e _ (by assumption : own[0]? = some x7)); (have hxp := congrArg Pk.parts hxe); first | exact ⟨by omega, mt_in ho (fun hc => by (have := any_first.2 hc); omega)⟩ | exact ⟨by omega, mt_out ho (any_first.1 (by omega))⟩)⟩, by (have hxe := hx0e _ (by assumption : own[0]? = some x7)); (have hxp := congrArg Pk.parts hxe); omega⟩
  ·
    refine v_exit ?_
    refine p_seqX ?_
    refine p_lpX ?_
    refine p_blkX ?_
    refine p_seqN ?_
    refine v_seq ?_
    refine v_ops ?_
    refine s_pure w (fun _ q => q) ?_
    refine s_pure w (fun _ q => q) ?_
    refine s_nil ?_
    refine p_seqN ?_
    refine v_ret ?_
    refine p_ret [w] w (fun _ q => q) rfl ?_
    have ho : missOf (own.map Pk.p) = o := by rw [missOf, parts_at hx0_, ho]; (have hxe := hx0e _ (by assumption)); (have hxp := congrArg Pk.parts hxe); congr 1; omega
    exact ⟨w, by first | (rw [ho]; done) | rfl, sl_eq s_w (congrArg (fun o => o) ho).symm, fr_w.mono (by omega), Eh⟩

set_option maxRecDepth 10000 in
set_option maxHeartbeats 4000000 in
theorem spec_pkJoin_ok (v_l : Value) (l : List Pk) (d_l : List (PkP)) (m : Int) (h : Heap) (s_l : Sl h v_l l) (in_l : ∀ p ∈ l, Sl h p.sv.v p.sig) (hd_l : l.map Pk.p = d_l) (hok : PksOk d_l) (hm : 1 ≤ m ∧ m ≤ 999) : Cn f_spec_pkJoin [v_l, .int .i64 m] h fun v h' => ∃ r0 : Value, v = .tuple #[r0, .bool ((jnOut d_l m).2)] ∧ SlO h' r0 ((jnOut d_l m).1) ∧ Fr h.size r0 ∧ Ext h h' := by
  subst hd_l
  have lt_l := s_l.lt
  have l63_l := s_l.len63
  have inlt_l := fun p hp => (in_l p hp).lt
  refine calls_of r_spec_pkJoin ?_
  refine v_seq ?_
  refine v_ops ?_
  refine s_pure (.slice none 0 0) (fun _ q => q) ?_
  refine s_pure (.bool false) (fun _ q => q) ?_
  refine s_nil ?_
  refine p_seqN ?_
  refine v_seq ?_
  refine v_ops ?_
  refine s_pure v_l (fun _ q => q) ?_
  refine s_pure (.int .i64 m) (fun _ q => q) ?_
  refine s_call [v_l, .int .i64 m] rfl (spec_pkOf_ok v_l l (l.map Pk.p) m _ s_l in_l rfl hok) ?_
  rintro _ h2 ⟨r1, qr1, rfl, s_r1, fr_r1, sub_r1, dq_r1, eh2⟩
  have E3 := (Ext.refl h).trans eh2
  have z4 := eh2.size
  have lt_r1 := s_r1.lt
  refine s_pure (.tuple #[r1, .bool ((pkoOut (l.map Pk.p) m).2)]) (fun _ q => q) ?_
  refine s_pure r1 (fun _ q => q) ?_
  refine s_pure (.bool ((pkoOut (l.map Pk.p) m).2)) (fun _ q => q) ?_
  refine s_pure r1 (fun _ q => q) ?_
  refine s_pure (.bool ((pkoOut (l.map Pk.p) m).2)) (fun _ q => q) ?_
  refine s_nil ?_
  refine p_seqN ?_
  refine v_seq ?_
  refine v_seq ?_
  refine v_ops ?_
  refine s_pure (.bool ((pkoOut (l.map Pk.p) m).2)) (fun _ q => q) ?_
  refine s_pure (.bool (!(pkoOut (l.map Pk.p) m).2)) (fun _ q => q) ?_
  refine s_pure (.bool (!(pkoOut (l.map Pk.p) m).2)) (fun _ q => q) ?_
  refine s_splitT rfl (fun c5 => ?_) (fun c5 => ?_)
  ·
    refine s_pass rfl ?_
    refine s_pass rfl ?_
    refine s_pass rfl ?_
    refine s_pure (.bool true) (fun _ q => q) ?_
    refine s_pure (.bool true) (fun _ q => q) ?_
    refine s_splitY rfl rfl ?_
    refine s_pass rfl ?_
    refine s_pass rfl ?_
    refine s_pass rfl ?_
    refine s_pass rfl ?_
    refine s_pure (.bool true) (fun _ q => q) ?_
    refine s_nil ?_
    refine p_seqN ?_
    refine v_condY rfl rfl ?_
    refine v_seq ?_
    refine v_ops ?_
    refine s_pure (.slice none 0 0) (fun _ q => q) ?_
    refine s_pure (.bool false) (fun _ q => q) ?_
    refine s_nil ?_
    refine p_seqN ?_
    refine v_ret ?_
    refine p_seqR ?_
    refine p_ret [.slice none 0 0, .bool false] (.tuple #[.slice none 0 0, .bool false]) (fun _ q => q) rfl ?_
    have ho : jnOut (l.map Pk.p) m = ([], false) := by first | exact (jk_no0 (by assumption)).1 | exact (jk_no1 hok hm (by assumption : (pkoOut (l.map Pk.p) m).2 = true) (by assumption) (by assumption)).1 | exact jk_no2 hok hm (by assumption : (pkoOut (l.map Pk.p) m).2 = true) (by assumption)
    exact ⟨(.slice none 0 0), by first | (rw [ho]; done) | rfl, sl_eq (SlX.nil (α := Int) true _) (congrArg (fun o => o.1) ho).symm, Fr.nil _, E3⟩
  ·
    have c5 := Classical.not_not.1 c5
    refine s_run rfl ?_
    refine s_pure r1 (fun _ q => q) ?_
    refine s_run rfl ?_
    refine s_pure (.int .i64 (qr1.length : Int)) (fun _ q => s_r1.lenVC q) ?_
    refine s_run rfl ?_
    refine s_pure (.bool ((qr1.length : Int) == 0)) (fun _ q => q) ?_
    refine s_pure (.bool ((qr1.length : Int) == 0)) (fun _ q => q) ?_
    refine s_pure (.bool ((qr1.length : Int) == 0)) (fun _ q => q) ?_
    refine s_splitT rfl (fun c6 => ?_) (fun c6 => ?_)
    ·
      refine s_pass rfl ?_
      refine s_pass rfl ?_
      refine s_pass rfl ?_
      refine s_pass rfl ?_
      refine s_pure (.bool true) (fun _ q => q) ?_
      refine s_nil ?_
      refine p_seqN ?_
      refine v_condY rfl rfl ?_
      refine v_seq ?_
      refine v_ops ?_
      refine s_pure (.slice none 0 0) (fun _ q => q) ?_
      refine s_pure (.bool false) (fun _ q => q) ?_
      refine s_nil ?_
      refine p_seqN ?_
      refine v_ret ?_
      refine p_seqR ?_
      refine p_ret [.slice none 0 0, .bool false] (.tuple #[.slice none 0 0, .bool false]) (fun _ q => q) rfl ?_
      have ho : jnOut (l.map Pk.p) m = ([], false) := by first | exact (jk_no0 (by assumption)).1 | exact (jk_no1 hok hm (by assumption : (pkoOut (l.map Pk.p) m).2 = true) (by assumption) (by assumption)).1 | exact jk_no2 hok hm (by assumption : (pkoOut (l.map Pk.p) m).2 = true) (by assumption)
      exact ⟨(.slice none 0 0), by first | (rw [ho]; done) | rfl, sl_eq (SlX.nil (α := Int) true _) (congrArg (fun o => o.1) ho).symm, Fr.nil _, E3⟩
    ·
      refine s_run rfl ?_
      refine s_pure r1 (fun _ q => q) ?_
      refine s_run rfl ?_
      have in7 := fun p hp => (in_l p hp).ext eh2
      refine s_call [r1] rfl (spec_pkMissing_ok r1 qr1 ((pkoOut (l.map Pk.p) m).1) _ s_r1.toSl (fun p hp => in7 p (sub_r1 p hp)) dq_r1 (by omega) (own_ne2 (o := ([], true)) hok (by assumption) (by assumption : (pkoOut (l.map Pk.p) m).2 = true))) ?_
      rintro r8 h9 ⟨_, rfl, s_r8, fr_r8, eh9⟩
      have E10 := E3.trans eh9
      have z11 := eh9.size
      have lt_r8 := s_r8.lt
      refine s_run rfl ?_
      refine s_pure (.int .i64 ((missOf ((pkoOut (l.map Pk.p) m).1)).length : Int)) (fun _ q => s_r8.lenVC q) ?_
      refine s_run rfl ?_
      refine s_pure (.bool (decide (((missOf ((pkoOut (l.map Pk.p) m).1)).length : Int) > 0))) (fun _ q => q) ?_
      refine s_pure (.bool (decide (((missOf ((pkoOut (l.map Pk.p) m).1)).length : Int) > 0))) (fun _ q => q) ?_
      refine s_nil ?_
      refine p_seqN ?_
      refine v_cond rfl (fun c12 => ?_) (fun c12 => ?_)
      ·
        refine v_seq ?_
        refine v_ops ?_
        refine s_pure (.slice none 0 0) (fun _ q => q) ?_
        refine s_pure (.bool false) (fun _ q => q) ?_
        refine s_nil ?_
        refine p_seqN ?_
        refine v_ret ?_
        refine p_seqR ?_
        refine p_ret [.slice none 0 0, .bool false] (.tuple #[.slice none 0 0, .bool false]) (fun _ q => q) rfl ?_
        have ho : jnOut (l.map Pk.p) m = ([], false) := by first | exact (jk_no0 (by assumption)).1 | exact (jk_no1 hok hm (by assumption : (pkoOut (l.map Pk.p) m).2 = true) (by assumption) (by assumption)).1 | exact jk_no2 hok hm (by assumption : (pkoOut (l.map Pk.p) m).2 = true) (by assumption)
        exact ⟨(.slice none 0 0), by first | (rw [ho]; done) | rfl, sl_eq (SlX.nil (α := Int) true _) (congrArg (fun o => o.1) ho).symm, Fr.nil _, E10⟩
      ·
        refine v_skip ?_
        refine p_seqN ?_
        refine v_seq ?_
        refine v_ops ?_
        refine s_pure (.slice none 0 0) (fun _ q => q) ?_
        refine s_nil ?_
        refine p_seqN ?_
        refine v_seq ?_
        refine v_seq ?_
        refine v_ops ?_
        refine s_pure (.int .i64 0) (fun _ q => q) ?_
        refine s_nil ?_
        refine p_seqN ?_
        refine v_block ?_
        have hq_ : qr1.map Pk.p = (pkoOut (l.map Pk.p) m).1 := by assumption
        have h0_ : ¬ (qr1.length : Int) = 0 := by assumption
        have hne_ : 0 < qr1.length := by omega
        have hown := own_ne2 (q := qr1) (o := ([], true)) hok hq_ (by assumption : (pkoOut (l.map Pk.p) m).2 = true)
        obtain ⟨x0_, hx0_⟩ : ∃ x, qr1[0]? = some x := ⟨_, List.getElem?_eq_getElem hne_⟩
        have hp0 := hown x0_ (List.mem_of_getElem? hx0_)
        have hx0e : ∀ y, qr1[0]? = some y → y = x0_ := fun y hy => Option.some.inj (hy.symm.trans hx0_)
        have hms_ : ¬ ((missOf (pkoOut (l.map Pk.p) m).1).length : Int) > 0 := by assumption
        have hmiss : ¬ ((missOf (qr1.map Pk.p)).length : Int) > 0 := by rw [hq_]; exact hms_
        have f14 := (s_r1.ext eh9)
        refine v_loop3 (α := Nat) (β := List Int) (γ := Value) (fun k o w => [(6, r1), (8, w), (9, .int .i64 (k : Int))]) (fun k o w hh => Ext h hh ∧ SlO hh r1 qr1 ∧ SlO hh w o ∧ Fr h.size w ∧ (∀ b ∈ blks r1, b ∉ blks w) ∧ (k : Int) ≤ x0_.parts ∧ o = joinTo (qr1.map Pk.p) k) (fun k o w => x0_.parts.toNat - k) 0 [] (.slice none 0 0) ⟨rfl, rfl, rfl⟩ ⟨E10, f14, (sl_eq (SlX.nil (α := Int) true h9) (by simp)), (Fr.nil _), (fun b hb hc => by simp [blks, fpts] at hc), (by exact ⟨by omega, rfl⟩)⟩ ?_
        rintro k o w R15 h13 ⟨Eh, s_r1, s_w, fr_w, np_r1_w, ⟨hk, ho⟩⟩
        have zEh := Eh.size
        have f17 := s_l.ext Eh
        have in18 := fun p hp => (in_l p hp).ext Eh
        have ltk_r1 := s_r1.lt
        have lt_w := s_w.lt
        have hol := join_le (q := qr1) hown k
        rw [← ho] at hol
        refine v_seq ?_
        refine v_seq ?_
        refine v_ops ?_
        refine s_pure (.int .i64 (k : Int)) (fun _ q => q) ?_
        refine s_pure r1 (fun _ q => q) ?_
        have hk19 : 0 < qr1.length := (by first | omega | assumption)
        obtain ⟨x20, hx20⟩ : ∃ x, qr1[0]? = some x := ⟨_, List.getElem?_eq_getElem hk19⟩
        refine s_pure (.pointer (some ⟨sblk r1, soff r1 + 0 * 4, none⟩)) (fun _ q => s_r1.idx (k := 0) rfl hk19 q) ?_
        refine s_pure (.pointer (some ⟨sblk r1, soff r1 + 0 * 4 + 2, none⟩)) (fun _ q => q) ?_
        have s21 := (fun p hp => in18 p (sub_r1 p hp)) x20 (List.mem_of_getElem? hx20)
        refine s_load (.int .i64 x20.parts) (fun _ q => s_r1.load hx20 (j := 2) rfl rfl q) ?_
        refine s_pure (.bool (decide ((k : Int) < x20.parts))) (fun _ q => q) ?_
        refine s_nil ?_
        refine p_seqN ?_
        refine v_cond rfl (fun c22 => ?_) (fun c22 => ?_)
        ·
          refine v_skip ?_
          refine p_seqN ?_
          refine v_seq ?_
          refine v_block ?_
          refine v_ops ?_
          refine s_pure w (fun _ q => q) ?_
          refine s_pure r1 (fun _ q => q) ?_
          refine s_pure r1 (fun _ q => q) ?_
          refine s_pure (.int .i64 (k : Int)) (fun _ q => q) ?_
          refine s_call [r1, .int .i64 (k : Int)] rfl (spec_pkPart_ok r1 qr1 (k : Int) _ s_r1.toSl (fun p hp => in18 p (sub_r1 p hp))) ?_
          rintro _ h23 ⟨rfl, eh23⟩
          have E24 := Eh.trans eh23
          have z25 := eh23.size
          have f26 := (s_r1.ext eh23)
          have hk27 : (firstF (fun x : Pk => decide (x.p.part = (k : Int))) qr1 0).toNat < qr1.length := (by (have hxe := hx0e _ (by assumption : qr1[0]? = some _)); (have hxp := congrArg Pk.parts hxe); (have hfi := first_in (miss_all (n := k) hx0_ hmiss (by omega))); omega)
          obtain ⟨x28, hx28⟩ : ∃ x, qr1[(firstF (fun x : Pk => decide (x.p.part = (k : Int))) qr1 0).toNat]? = some x := ⟨_, List.getElem?_eq_getElem hk27⟩
          refine s_pure (.pointer (some ⟨sblk r1, soff r1 + ((firstF (fun x : Pk => decide (x.p.part = (k : Int))) qr1 0).toNat) * 4, none⟩)) (fun _ q => f26.idx (k := (firstF (fun x : Pk => decide (x.p.part = (k : Int))) qr1 0).toNat) (by (have hxe := hx0e _ (by assumption : qr1[0]? = some _)); (have hxp := congrArg Pk.parts hxe); (have hfi := first_in (miss_all (n := k) hx0_ hmiss (by omega))); omega) hk27 q) ?_
          refine s_pure (.pointer (some ⟨sblk r1, soff r1 + ((firstF (fun x : Pk => decide (x.p.part = (k : Int))) qr1 0).toNat) * 4 + 3, none⟩)) (fun _ q => q) ?_
          have in30 := fun p hp => (in18 p hp).ext eh23
          have s29 := (fun p hp => in30 p (sub_r1 p hp)) x28 (List.mem_of_getElem? hx28)
          refine s_load x28.sv.v (fun _ q => f26.load hx28 (j := 3) rfl rfl q) ?_
          have f31 := (s_w.ext eh23)
          refine s_app f31 s29 rfl rfl rfl (by (have hxe := hx0e _ (by assumption : qr1[0]? = some _)); (have hxp := congrArg Pk.parts hxe); (have hs8 := (hown _ (List.mem_of_getElem? (by assumption : qr1[(firstF _ _ _).toNat]? = some _))).1); simp [maxLen]; omega) (by (have hxe := hx0e _ (by assumption : qr1[0]? = some _)); (have hxp := congrArg Pk.parts hxe); (have hs8 := (hown _ (List.mem_of_getElem? (by assumption : qr1[(firstF _ _ _).toNat]? = some _))).1); simp; omega) (fun r32 h33 mh33 zh33 s_r32 ab_r32 => ?_)
          have E34 := E24.mod mh33 (fun b hb => by have := fr_w b hb; omega)
          have fr_r32 := fr_w.app ab_r32 (by omega)
          have np35 : ∀ b ∈ blks r1, b ∉ blks r32 := fun b hb hc => (ab_r32 _ hc).elim ((np_r1_w : ∀ b ∈ blks r1, b ∉ blks w) b hb) (fun hc => by have := ltk_r1 b hb; omega)
          have np36 : ∀ b ∈ blks r1, b ∉ blks r32 := fun b hb hc => (ab_r32 _ hc).elim ((np_r1_w : ∀ b ∈ blks r1, b ∉ blks w) b hb) (fun hc => by have := ltk_r1 b hb; omega)
          have lt_r32 := s_r32.lt
          refine s_pure r32 (fun _ q => q) ?_
          refine s_nil ?_
          refine p_blkN ?_
          refine p_seqN ?_
          refine v_ops ?_
          refine s_pure (.int .i64 (k : Int)) (fun _ q => q) ?_
          refine s_pure (.int .i64 ((k : Int) + 1)) (fun _ q => ArithVC.mk (by (have hxe := hx0e _ (by assumption : qr1[0]? = some _)); (have hxp := congrArg Pk.parts hxe); omega) q) ?_
          refine s_pure (.int .i64 ((k : Int) + 1)) (fun _ q => q) ?_
          refine s_nil ?_
          have f37 := (f26.mod mh33 np_r1_w)
          exact p_lpN ⟨k + 1, (o ++ x28.sig), r32, ⟨rfl, rfl, rfl⟩, ⟨E34, f37, (sl_eq s_r32 (by simp)), (fr_r32.mono (by omega)), np36, (by (have hxe := hx0e _ (by assumption : qr1[0]? = some _)); (have hxp := congrArg Pk.parts hxe); exact ⟨by omega, jt_step ho (by assumption) (miss_all (n := k) hx0_ hmiss (by omega))⟩)⟩, by (have hxe := hx0e _ (by assumption : qr1[0]? = some _)); (have hxp := congrArg Pk.parts hxe); omega⟩
        ·
          refine v_exit ?_
          refine p_seqX ?_
          refine p_lpX ?_
          refine p_blkX ?_
          refine p_seqN ?_
          refine v_seq ?_
          refine v_ops ?_
          refine s_pure w (fun _ q => q) ?_
          refine s_pure w (fun _ q => q) ?_
          refine s_pure (.bool true) (fun _ q => q) ?_
          refine s_nil ?_
          refine p_seqN ?_
          refine v_ret ?_
          refine p_ret [w, .bool true] (.tuple #[w, .bool true]) (fun _ q => q) rfl ?_
          have ho : jnOut (l.map Pk.p) m = (o, true) := by (have hxe := hx0e _ (by assumption : qr1[0]? = some _)); (have hxp := congrArg Pk.parts hxe); exact jk_yes hok hm (by assumption : (pkoOut (l.map Pk.p) m).2 = true) hq_ h0_ hms_ hx0_ ho hk (by omega)
          exact ⟨w, by first | (rw [ho]; done) | rfl, sl_eq s_w (congrArg (fun o => o.1) ho).symm, fr_w.mono (by omega), Eh⟩

theorem spec_JoinMessage_ok (v_l : Value) (l : List Pk) (d_l : List (PkP)) (m : Int) (h : Heap) (s_l : Sl h v_l l) (in_l : ∀ p ∈ l, Sl h p.sv.v p.sig) (hd_l : l.map Pk.p = d_l) : Cn f_spec_JoinMessage [v_l, .int .i64 m] h fun v h' => ∃ r0 : Value, v = .tuple #[r0, .bool ((jnOut d_l m).2)] ∧ SlO h' r0 ((jnOut d_l m).1) ∧ Fr h.size r0 ∧ Ext h h' := by
  subst hd_l
  have lt_l := s_l.lt
  have l63_l := s_l.len63
  have inlt_l := fun p hp => (in_l p hp).lt
  refine calls_of r_spec_JoinMessage ?_
  refine v_seq ?_
  refine v_ops ?_
  refine s_pure (.slice none 0 0) (fun _ q => q) ?_
  refine s_pure (.bool false) (fun _ q => q) ?_
  refine s_nil ?_
  refine p_seqN ?_
  refine v_seq ?_
  refine v_seq ?_
  refine v_ops ?_
  refine s_pure v_l (fun _ q => q) ?_
  refine s_call [v_l] rfl (spec_pkAll_ok v_l l (l.map Pk.p) _ s_l in_l rfl) ?_
  rintro _ h1 ⟨rfl, eh1⟩
  have E2 := (Ext.refl h).trans eh1
  have z3 := eh1.size
  refine s_pure (.bool (!decide (PksOk (l.map Pk.p)))) (fun _ q => q) ?_
  refine s_pure (.bool (!decide (PksOk (l.map Pk.p)))) (fun _ q => q) ?_
  refine s_splitT rfl (fun c4 => ?_) (fun c4 => ?_)
  ·
    refine s_pass rfl ?_
    refine s_pass rfl ?_
    refine s_pass rfl ?_
    refine s_pure (.bool true) (fun _ q => q) ?_
    refine s_nil ?_
    refine p_seqN ?_
    refine v_condY rfl rfl ?_
    refine v_seq ?_
    refine v_ops ?_
    refine s_pure (.slice none 0 0) (fun _ q => q) ?_
    refine s_pure (.bool false) (fun _ q => q) ?_
    refine s_nil ?_
    refine p_seqN ?_
    refine v_ret ?_
    refine p_seqR ?_
    refine p_ret [.slice none 0 0, .bool false] (.tuple #[.slice none 0 0, .bool false]) (fun _ q => q) rfl ?_
    have ho : jnOut (l.map Pk.p) m = ([], false) := by first | exact jn_no (fun h => (by assumption : ¬ PksOk _) (pkf_ask h.1).1.1) | exact jn_no (fun h => (by assumption : ¬ (1 ≤ m ∧ m ≤ 999)) (pkf_ask h.1).1.2) | rfl
    exact ⟨(.slice none 0 0), by first | (rw [ho]; done) | rfl, sl_eq (SlX.nil (α := Int) true _) (congrArg (fun o => o.1) ho).symm, Fr.nil _, E2⟩
  ·
    have c4 := Classical.not_not.1 c4
    refine s_run rfl ?_
    refine s_pure (.int .i64 m) (fun _ q => q) ?_
    refine s_run rfl ?_
    refine s_callS [.int .i64 m] (.bool (decide (1 ≤ m ∧ m ≤ 999))) rfl (pkMessage_ok m _ ) ?_
    refine s_run rfl ?_
    refine s_pure (.bool (!(decide (1 ≤ m ∧ m ≤ 999)))) (fun _ q => q) ?_
    refine s_pure (.bool (!(decide (1 ≤ m ∧ m ≤ 999)))) (fun _ q => q) ?_
    refine s_nil ?_
    refine p_seqN ?_
    refine v_cond rfl (fun c5 => ?_) (fun c5 => ?_)
    ·
      refine v_seq ?_
      refine v_ops ?_
      refine s_pure (.slice none 0 0) (fun _ q => q) ?_
      refine s_pure (.bool false) (fun _ q => q) ?_
      refine s_nil ?_
      refine p_seqN ?_
      refine v_ret ?_
      refine p_seqR ?_
      refine p_ret [.slice none 0 0, .bool false] (.tuple #[.slice none 0 0, .bool false]) (fun _ q => q) rfl ?_
      have ho : jnOut (l.map Pk.p) m = ([], false) := by first | exact jn_no (fun h => (by assumption : ¬ PksOk _) (pkf_ask h.1).1.1) | exact jn_no (fun h => (by assumption : ¬ (1 ≤ m ∧ m ≤ 999)) (pkf_ask h.1).1.2) | rfl
      exact ⟨(.slice none 0 0), by first | (rw [ho]; done) | rfl, sl_eq (SlX.nil (α := Int) true _) (congrArg (fun o => o.1) ho).symm, Fr.nil _, E2⟩
    ·
      have c5 := Classical.not_not.1 c5
      refine v_skip ?_
      refine p_seqN ?_
      refine v_seq ?_
      refine v_ops ?_
      refine s_pure v_l (fun _ q => q) ?_
      refine s_pure (.int .i64 m) (fun _ q => q) ?_
      have f6 := (s_l.ext eh1)
      have in7 := fun p hp => (in_l p hp).ext eh1
      refine s_call [v_l, .int .i64 m] rfl (spec_pkJoin_ok v_l l (l.map Pk.p) m _ f6 in7 rfl (by assumption) (by assumption)) ?_
      rintro _ h9 ⟨r8, rfl, s_r8, fr_r8, eh9⟩
      have E10 := E2.trans eh9
      have z11 := eh9.size
      have lt_r8 := s_r8.lt
      refine s_pure r8 (fun _ q => q) ?_
      refine s_pure (.bool ((jnOut (l.map Pk.p) m).2)) (fun _ q => q) ?_
      refine s_pure r8 (fun _ q => q) ?_
      refine s_pure (.bool ((jnOut (l.map Pk.p) m).2)) (fun _ q => q) ?_
      refine s_nil ?_
      refine p_seqN ?_
      refine v_ret ?_
      refine p_ret [r8, .bool ((jnOut (l.map Pk.p) m).2)] (.tuple #[r8, .bool ((jnOut (l.map Pk.p) m).2)]) (fun _ q => q) rfl ?_
      have ho : jnOut (l.map Pk.p) m = ((jnOut (l.map Pk.p) m).1, (jnOut (l.map Pk.p) m).2) := by first | exact jn_no (fun h => (by assumption : ¬ PksOk _) (pkf_ask h.1).1.1) | exact jn_no (fun h => (by assumption : ¬ (1 ≤ m ∧ m ≤ 999)) (pkf_ask h.1).1.2) | rfl
      exact ⟨r8, by first | (rw [ho]; done) | rfl, sl_eq s_r8 (congrArg (fun o => o.1) ho).symm, fr_r8.mono (by omega), E10⟩

set_option maxRecDepth 10000 in
set_option maxHeartbeats 4000000 in
theorem spec_MissingParts_ok (v_l : Value) (l : List Pk) (d_l : List (PkP)) (m : Int) (h : Heap) (s_l : Sl h v_l l) (in_l : ∀ p ∈ l, Sl h p.sv.v p.sig) (hd_l : l.map Pk.p = d_l) : Cn f_spec_MissingParts [v_l, .int .i64 m] h fun v h' => ∃ r0 : Value, v = .tuple #[r0, .bool ((msOut d_l m).2)] ∧ SlO h' r0 ((msOut d_l m).1) ∧ Fr h.size r0 ∧ Ext h h' := by
  subst hd_l
  have lt_l := s_l.lt
  have l63_l := s_l.len63
  have inlt_l := fun p hp => (in_l p hp).lt
  refine calls_of r_spec_MissingParts ?_
  refine v_seq ?_
  refine v_ops ?_
  refine s_pure (.slice none 0 0) (fun _ q => q) ?_
  refine s_pure (.bool false) (fun _ q => q) ?_
  refine s_nil ?_
  refine p_seqN ?_
  refine v_seq ?_
  refine v_seq ?_
  refine v_ops ?_
  refine s_pure v_l (fun _ q => q) ?_
  refine s_call [v_l] rfl (spec_pkAll_ok v_l l (l.map Pk.p) _ s_l in_l rfl) ?_
  rintro _ h1 ⟨rfl, eh1⟩
  have E2 := (Ext.refl h).trans eh1
  have z3 := eh1.size
  refine s_pure (.bool (!decide (PksOk (l.map Pk.p)))) (fun _ q => q) ?_
  refine s_pure (.bool (!decide (PksOk (l.map Pk.p)))) (fun _ q => q) ?_
  refine s_splitT rfl (fun c4 => ?_) (fun c4 => ?_)
  ·
    refine s_pass rfl ?_
    refine s_pass rfl ?_
    refine s_pass rfl ?_
    refine s_pure (.bool true) (fun _ q => q) ?_
    refine s_nil ?_
    refine p_seqN ?_
    refine v_condY rfl rfl ?_
    refine v_seq ?_
    refine v_ops ?_
    refine s_pure (.slice none 0 0) (fun _ q => q) ?_
    refine s_pure (.bool false) (fun _ q => q) ?_
    refine s_nil ?_
    refine p_seqN ?_
    refine v_ret ?_
    refine p_seqR ?_
    refine p_ret [.slice none 0 0, .bool false] (.tuple #[.slice none 0 0, .bool false]) (fun _ q => q) rfl ?_
    have ho : msOut (l.map Pk.p) m = ([], false) := by first | exact ms_no (fun h => (by assumption : ¬ PksOk _) (pkf_ask h).1.1) | exact ms_no (fun h => (by assumption : ¬ (1 ≤ m ∧ m ≤ 999)) (pkf_ask h).1.2) | exact (jk_no0 (by assumption)).2 | exact (jk_no1 (by assumption) (by assumption) (by assumption : (pkoOut (l.map Pk.p) m).2 = true) (by assumption) (by assumption)).2 | exact mk_yes (by assumption) (by assumption) (by assumption : (pkoOut (l.map Pk.p) m).2 = true) (by assumption) (by assumption)
    exact ⟨(.slice none 0 0), by first | (rw [ho]; done) | rfl, sl_eq (SlX.nil (α := Int) true _) (congrArg (fun o => o.1) ho).symm, Fr.nil _, E2⟩
  ·
    have c4 := Classical.not_not.1 c4
    refine s_run rfl ?_
    refine s_pure (.int .i64 m) (fun _ q => q) ?_
    refine s_run rfl ?_
    refine s_callS [.int .i64 m] (.bool (decide (1 ≤ m ∧ m ≤ 999))) rfl (pkMessage_ok m _ ) ?_
    refine s_run rfl ?_
    refine s_pure (.bool (!(decide (1 ≤ m ∧ m ≤ 999)))) (fun _ q => q) ?_
    refine s_pure (.bool (!(decide (1 ≤ m ∧ m ≤ 999)))) (fun _ q => q) ?_
    refine s_nil ?_
    refine p_seqN ?_
    refine v_cond rfl (fun c5 => ?_) (fun c5 => ?_)
    ·
      refine v_seq ?_
      refine v_ops ?_
      refine s_pure (.slice none 0 0) (fun _ q => q) ?_
      refine s_pure (.bool false) (fun _ q => q) ?_
      refine s_nil ?_
      refine p_seqN ?_
      refine v_ret ?_
      refine p_seqR ?_
      refine p_ret [.slice none 0 0, .bool false] (.tuple #[.slice none 0 0, .bool false]) (fun _ q => q) rfl ?_
      have ho : msOut (l.map Pk.p) m = ([], false) := by first | exact ms_no (fun h => (by assumption : ¬ PksOk _) (pkf_ask h).1.1) | exact ms_no (fun h => (by assumption : ¬ (1 ≤ m ∧ m ≤ 999)) (pkf_ask h).1.2) | exact (jk_no0 (by assumption)).2 | exact (jk_no1 (by assumption) (by assumption) (by assumption : (pkoOut (l.map Pk.p) m).2 = true) (by assumption) (by assumption)).2 | exact mk_yes (by assumption) (by assumption) (by assumption : (pkoOut (l.map Pk.p) m).2 = true) (by assumption) (by assumption)
      exact ⟨(.slice none 0 0), by first | (rw [ho]; done) | rfl, sl_eq (SlX.nil (α := Int) true _) (congrArg (fun o => o.1) ho).symm, Fr.nil _, E2⟩
    ·
      have c5 := Classical.not_not.1 c5
      refine v_skip ?_
      refine p_seqN ?_
      refine v_seq ?_
      refine v_ops ?_
      refine s_pure v_l (fun _ q => q) ?_
      refine s_pure (.int .i64 m) (fun _ q => q) ?_
      have f6 := (s_l.ext eh1)
      have in7 := fun p hp => (in_l p hp).ext eh1
      refine s_call [v_l, .int .i64 m] rfl (spec_pkOf_ok v_l l (l.map Pk.p) m _ f6 in7 rfl (by assumption)) ?_
      rintro _ h9 ⟨r8, qr8, rfl, s_r8, fr_r8, sub_r8, dq_r8, eh9⟩
      have E10 := E2.trans eh9
      have z11 := eh9.size
      have lt_r8 := s_r8.lt
      refine s_pure (.tuple #[r8, .bool ((pkoOut (l.map Pk.p) m).2)]) (fun _ q => q) ?_
      refine s_pure r8 (fun _ q => q) ?_
      refine s_pure (.bool ((pkoOut (l.map Pk.p) m).2)) (fun _ q => q) ?_
      refine s_pure r8 (fun _ q => q) ?_
      refine s_pure (.bool ((pkoOut (l.map Pk.p) m).2)) (fun _ q => q) ?_
      refine s_nil ?_
      refine p_seqN ?_
      refine v_seq ?_
      refine v_seq ?_
      refine v_ops ?_
      refine s_pure (.bool ((pkoOut (l.map Pk.p) m).2)) (fun _ q => q) ?_
      refine s_pure (.bool (!(pkoOut (l.map Pk.p) m).2)) (fun _ q => q) ?_
      refine s_pure (.bool (!(pkoOut (l.map Pk.p) m).2)) (fun _ q => q) ?_
      refine s_splitT rfl (fun c12 => ?_) (fun c12 => ?_)
      ·
        refine s_pass rfl ?_
        refine s_pass rfl ?_
        refine s_pass rfl ?_
        refine s_pure (.bool true) (fun _ q => q) ?_
        refine s_nil ?_
        refine p_seqN ?_
        refine v_condY rfl rfl ?_
        refine v_seq ?_
        refine v_ops ?_
        refine s_pure (.slice none 0 0) (fun _ q => q) ?_
        refine s_pure (.bool false) (fun _ q => q) ?_
        refine s_nil ?_
        refine p_seqN ?_
        refine v_ret ?_
        refine p_seqR ?_
        refine p_ret [.slice none 0 0, .bool false] (.tuple #[.slice none 0 0, .bool false]) (fun _ q => q) rfl ?_
        have ho : msOut (l.map Pk.p) m = ([], false) := by first | exact ms_no (fun h => (by assumption : ¬ PksOk _) (pkf_ask h).1.1) | exact ms_no (fun h => (by assumption : ¬ (1 ≤ m ∧ m ≤ 999)) (pkf_ask h).1.2) | exact (jk_no0 (by assumption)).2 | exact (jk_no1 (by assumption) (by assumption) (by assumption : (pkoOut (l.map Pk.p) m).2 = true) (by assumption) (by assumption)).2 | exact mk_yes (by assumption) (by assumption) (by assumption : (pkoOut (l.map Pk.p) m).2 = true) (by assumption) (by assumption)
        exact ⟨(.slice none 0 0), by first | (rw [ho]; done) | rfl, sl_eq (SlX.nil (α := Int) true _) (congrArg (fun o => o.1) ho).symm, Fr.nil _, E10⟩
      ·
        have c12 := Classical.not_not.1 c12
        refine s_run rfl ?_
        refine s_pure r8 (fun _ q => q) ?_
        refine s_run rfl ?_
        refine s_pure (.int .i64 (qr8.length : Int)) (fun _ q => s_r8.lenVC q) ?_
        refine s_run rfl ?_
        refine s_pure (.bool ((qr8.length : Int) == 0)) (fun _ q => q) ?_
        refine s_pure (.bool ((qr8.length : Int) == 0)) (fun _ q => q) ?_
        refine s_nil ?_
        refine p_seqN ?_
        refine v_cond rfl (fun c13 => ?_) (fun c13 => ?_)
        ·
          refine v_seq ?_
          refine v_ops ?_
          refine s_pure (.slice none 0 0) (fun _ q => q) ?_
          refine s_pure (.bool false) (fun _ q => q) ?_
          refine s_nil ?_
          refine p_seqN ?_
          refine v_ret ?_
          refine p_seqR ?_
          refine p_ret [.slice none 0 0, .bool false] (.tuple #[.slice none 0 0, .bool false]) (fun _ q => q) rfl ?_
          have ho : msOut (l.map Pk.p) m = ([], false) := by first | exact ms_no (fun h => (by assumption : ¬ PksOk _) (pkf_ask h).1.1) | exact ms_no (fun h => (by assumption : ¬ (1 ≤ m ∧ m ≤ 999)) (pkf_ask h).1.2) | exact (jk_no0 (by assumption)).2 | exact (jk_no1 (by assumption) (by assumption) (by assumption : (pkoOut (l.map Pk.p) m).2 = true) (by assumption) (by assumption)).2 | exact mk_yes (by assumption) (by assumption) (by assumption : (pkoOut (l.map Pk.p) m).2 = true) (by assumption) (by assumption)
          exact ⟨(.slice none 0 0), by first | (rw [ho]; done) | rfl, sl_eq (SlX.nil (α := Int) true _) (congrArg (fun o => o.1) ho).symm, Fr.nil _, E10⟩
        ·
          refine v_skip ?_
          refine p_seqN ?_
          refine v_seq ?_
          refine v_ops ?_
          refine s_pure r8 (fun _ q => q) ?_
          have in14 := fun p hp => (in7 p hp).ext eh9
          refine s_call [r8] rfl (spec_pkMissing_ok r8 qr8 ((pkoOut (l.map Pk.p) m).1) _ s_r8.toSl (fun p hp => in14 p (sub_r8 p hp)) dq_r8 (by omega) (own_ne2 (o := ([], true)) (by assumption) (by assumption) (by assumption : (pkoOut (l.map Pk.p) m).2 = true))) ?_
          rintro r15 h16 ⟨_, rfl, s_r15, fr_r15, eh16⟩
          have E17 := E10.trans eh16
          have z18 := eh16.size
          have lt_r15 := s_r15.lt
          refine s_pure r15 (fun _ q => q) ?_
          refine s_pure (.bool true) (fun _ q => q) ?_
          refine s_nil ?_
          refine p_seqN ?_
          refine v_ret ?_
          refine p_ret [r15, .bool true] (.tuple #[r15, .bool true]) (fun _ q => q) rfl ?_
          have ho : msOut (l.map Pk.p) m = (missOf ((pkoOut (l.map Pk.p) m).1), true) := by first | exact ms_no (fun h => (by assumption : ¬ PksOk _) (pkf_ask h).1.1) | exact ms_no (fun h => (by assumption : ¬ (1 ≤ m ∧ m ≤ 999)) (pkf_ask h).1.2) | exact (jk_no0 (by assumption)).2 | exact (jk_no1 (by assumption) (by assumption) (by assumption : (pkoOut (l.map Pk.p) m).2 = true) (by assumption) (by assumption)).2 | exact mk_yes (by assumption) (by assumption) (by assumption : (pkoOut (l.map Pk.p) m).2 = true) (by assumption) (by assumption)
          exact ⟨r15, by first | (rw [ho]; done) | rfl, sl_eq s_r15 (congrArg (fun o => o.1) ho).symm, fr_r15.mono (by omega), E17⟩

end Go.Proofs.YtbikhpphdhffaaaGreatDoor
