/- Rows of packets as they come in. Condition: none. Printed in part by a program. -/
import Derived.Test.YtbikhpphdhffaaaGreatDoorRw1
import Derived.Test.YtbikhpphdhffaaaGreatDoorTypes
import Derived.Test.YtbikhpphdhffaaaGreatDoorComA
namespace Go.Proofs.YtbikhpphdhffaaaGreatDoor
open Go.Vc
set_option linter.all false

theorem sl_cells {α β : Type} [Enc α] [Enc β] {h : Heap} {v : Value} {xs : List α} {ys : List β} (hs : Sl h v xs) (hl : ys.length = xs.length) (hsz : Enc.sz β = Enc.sz α) (hf : flat ys = flat xs) : Sl h v ys := by
  obtain ⟨a, c, hv, hs⟩ := hs
  refine ⟨a, c, by rw [hl]; exact hv, ?_⟩
  rcases hs with ⟨hx, hc⟩ | ⟨ad, h1, h2, h3, h4, h5, C, T, fz, h6, h7, h8, h9⟩
  · exact .inl ⟨List.eq_nil_of_length_eq_zero (by rw [hl, hx]; rfl), hc⟩
  · exact .inr ⟨ad, h1, h2, h3, by rw [hl]; exact h4, h5, C, T, fz, h6, h7, by rw [hsz]; exact h8, by rw [hl, hsz, hf]; exact h9⟩
def szD (l : List PkP) : Nat := 3 * l.length + (l.map fun p => p.signals.length).sum
theorem szP_eq (ps : List Pk) : szP ps = szD (ps.map Pk.p) := by simp [szP, szD, sigs, Function.comp_def]
theorem szD_eq (ps : List Pk) : szD (ps.map Pk.p) = 3 * ps.length + sigs ps := by rw [← szP_eq]; rfl
def PksOk (l : List PkP) : Prop := l.length ≤ 40 ∧ ∀ p ∈ l, PkOk p
noncomputable instance (l : List PkP) : Decidable (PksOk l) := Classical.propDecidable _
theorem pks_long {l : List Pk} (h : ¬ l.length ≤ 40) : decide (PksOk (l.map Pk.p)) = false := by
  simp only [decide_eq_false_iff_not]; intro ha; exact h (by simpa using ha.1)
theorem pks_bad {l : List Pk} {k : Nat} {x : Pk} (hx : l[k]? = some x) (h : ¬ PkOk x.p) : decide (PksOk (l.map Pk.p)) = false := by
  simp only [decide_eq_false_iff_not]; intro ha; exact h (ha.2 _ (List.mem_map_of_mem (List.mem_of_getElem? hx)))
theorem all_snoc {l : List Pk} {k : Nat} {x : Pk} {P : PkP → Prop} (h : ∀ p ∈ l.take k, P p.p) (hx : l[k]? = some x) (hp : P x.p) : ∀ p ∈ l.take (k + 1), P p.p := by
  rw [snoc_get hx]
  intro p hm
  rcases List.mem_append.1 hm with hm | hm
  · exact h p hm
  · obtain rfl := List.mem_singleton.1 hm; exact hp
theorem pks_end {l : List Pk} {k : Nat} {b : Bool} (hk : ¬ (k : Int) < (l.length : Int)) (h : ∀ p ∈ l.take k, PkOk p.p) (hb : b = true ↔ l.length ≤ 40) : decide (PksOk (l.map Pk.p)) = b := by
  rw [take_all hk] at h
  cases b
  · exact pks_long (fun hc => by have := hb.2 hc; cases this)
  · simp only [decide_eq_true_eq]
    refine ⟨by simpa using hb.1 rfl, fun p hp => ?_⟩
    obtain ⟨q, hq, rfl⟩ := List.mem_map.1 hp
    exact h q hq

theorem spec_pkAll_ok (v_l : Value) (l : List Pk) (d_l : List (PkP)) (h : Heap) (s_l : Sl h v_l l) (in_l : ∀ p ∈ l, Sl h p.sv.v p.sig) (hd_l : l.map Pk.p = d_l) : Cn f_spec_pkAll [v_l] h fun v h' => v = .bool (decide (PksOk d_l)) ∧ Ext h h' := by
  subst hd_l
  have lt_l := s_l.lt
  have l63_l := s_l.len63
  have inlt_l := fun p hp => (in_l p hp).lt
  refine calls_of r_spec_pkAll ?_
  refine v_seq ?_
  refine v_ops ?_
  refine s_pure (.bool false) (fun _ q => q) ?_
  refine s_nil ?_
  refine p_seqN ?_
  refine v_seq ?_
  refine v_seq ?_
  refine v_ops ?_
  refine s_pure v_l (fun _ q => q) ?_
  refine s_pure (.int .i64 (l.length : Int)) (fun _ q => s_l.lenVC q) ?_
  refine s_pure (.int .i64 0) (fun _ q => q) ?_
  refine s_nil ?_
  refine p_seqN ?_
  refine v_block ?_
  refine v_loop1 (α := Nat) (fun k => [(0, v_l), (5, v_l), (6, .int .i64 (l.length : Int)), (7, .int .i64 (k : Int))]) (fun k hh => Ext h hh ∧ k ≤ l.length ∧ ∀ p ∈ l.take k, PkOk p.p) (fun k => l.length - k) 0 ⟨rfl, rfl, rfl, rfl⟩ ⟨(Ext.refl h), (by simp)⟩ ?_
  rintro k R2 h1 ⟨Eh, ⟨hk, hall⟩⟩
  have zEh := Eh.size
  have f4 := s_l.ext Eh
  have in5 := fun p hp => (in_l p hp).ext Eh
  refine v_seq ?_
  refine v_ops ?_
  refine s_pure (.bool (decide ((k : Int) < (l.length : Int)))) (fun _ q => q) ?_
  refine s_nil ?_
  refine p_seqN ?_
  refine v_seq ?_
  refine v_cond rfl (fun c6 => ?_) (fun c6 => ?_)
  ·
    refine v_skip ?_
    refine p_seqN ?_
    refine v_seq ?_
    refine v_block ?_
    refine v_seq ?_
    refine v_ops ?_
    have hk7 : k < l.length := (by first | omega | (simp; omega))
    obtain ⟨x8, hx8⟩ : ∃ x, l[k]? = some x := ⟨_, List.getElem?_eq_getElem hk7⟩
    refine s_pure (.pointer (some ⟨sblk v_l, soff v_l + k * 4, none⟩)) (fun _ q => f4.idx (k := k) rfl hk7 q) ?_
    have s9 := in5 x8 (List.mem_of_getElem? hx8)
    refine s_load (.agg #[.int .i64 x8.message, .int .i64 x8.part, .int .i64 x8.parts, x8.sv.v]) (fun _ q => f4.loadN hx8 rfl q) ?_
    refine s_new (fun h11 b10 hbb10 hzb10 eh11 bxb10 => ?_)
    have E12 := Eh.trans eh11
    have z13 := eh11.size
    have lbb10 := bxb10.lt
    refine s_stBx (.agg #[.int .i64 x8.message, .int .i64 x8.part, .int .i64 x8.parts, x8.sv.v]) [.int .i64 x8.message, .int .i64 x8.part, .int .i64 x8.parts, x8.sv.v] [.int .i64 x8.message, .int .i64 x8.part, .int .i64 x8.parts, x8.sv.v] bxb10 rfl rfl rfl rfl (by simp) (all_cons rfl (all_cons rfl (all_cons rfl (all_cons s9.one1 all_nil)))) rfl (fun h14 mh14 sh14 bxx15 => ?_)
    have E16 := E12.mod mh14 (fun b hb => by simp at hb; omega)
    refine s_nil ?_
    refine p_seqN ?_
    refine v_seq ?_
    refine v_ops ?_
    refine s_load (.agg #[.int .i64 x8.message, .int .i64 x8.part, .int .i64 x8.parts, x8.sv.v]) (fun _ q => bxx15.loadA rfl q) ?_
    have f17 := ((s9.ext eh11).mod mh14 (fun b hb hc => by simp at hc; have := (inlt_l x8 (List.mem_of_getElem? hx8)) b hb; omega))
    refine s_call [.agg #[.int .i64 x8.message, .int .i64 x8.part, .int .i64 x8.parts, x8.sv.v]] rfl (spec_pkGood_ok (Pk.p x8) x8.sv.v _ f17) ?_
    rintro _ h18 ⟨rfl, eh18⟩
    have E19 := E16.trans eh18
    have z20 := eh18.size
    refine s_pure (.bool (!decide (PkOk (Pk.p x8)))) (fun _ q => q) ?_
    refine s_nil ?_
    refine p_seqN ?_
    refine v_cond rfl (fun c21 => ?_) (fun c21 => ?_)
    ·
      refine v_seq ?_
      refine v_ops ?_
      refine s_pure (.bool false) (fun _ q => q) ?_
      refine s_nil ?_
      refine p_seqN ?_
      refine v_ret ?_
      refine p_blkR ?_
      refine p_seqR ?_
      refine p_lpR ?_
      refine p_blkR ?_
      refine p_seqR ?_
      refine p_ret [.bool false] (.bool false) (fun _ q => q) rfl ?_
      have ho : decide (PksOk (l.map Pk.p)) = false := by first | exact pks_bad (by assumption) (by assumption) | exact pks_end (by assumption) hall (by simp; omega)
      exact ⟨by first | (rw [ho]; done) | rfl, E19⟩
    ·
      have c21 := Classical.not_not.1 c21
      refine v_skip ?_
      refine p_blkN ?_
      refine p_seqN ?_
      refine v_ops ?_
      refine s_pure (.int .i64 ((k : Int) + 1)) (fun _ q => ArithVC.mk (by omega) q) ?_
      refine s_pure (.int .i64 ((k : Int) + 1)) (fun _ q => q) ?_
      refine s_nil ?_
      exact p_lpN ⟨k + 1, ⟨rfl, rfl, rfl, rfl⟩, ⟨E19, (by exact ⟨by omega, all_snoc hall (by assumption) (by assumption)⟩)⟩, by omega⟩
  ·
    refine v_exit ?_
    refine p_seqX ?_
    refine p_lpX ?_
    refine p_blkX ?_
    refine p_seqN ?_
    refine v_seq ?_
    refine v_ops ?_
    refine s_pure v_l (fun _ q => q) ?_
    refine s_pure (.int .i64 (l.length : Int)) (fun _ q => f4.lenVC q) ?_
    refine s_pure (.bool (decide ((l.length : Int) ≤ 40))) (fun _ q => q) ?_
    refine s_pure (.bool (decide ((l.length : Int) ≤ 40))) (fun _ q => q) ?_
    refine s_nil ?_
    refine p_seqN ?_
    refine v_ret ?_
    refine p_ret [.bool (decide ((l.length : Int) ≤ 40))] (.bool (decide ((l.length : Int) ≤ 40))) (fun _ q => q) rfl ?_
    have ho : decide (PksOk (l.map Pk.p)) = (decide ((l.length : Int) ≤ 40)) := by first | exact pks_bad (by assumption) (by assumption) | exact pks_end (by assumption) hall (by simp; omega)
    exact ⟨by first | (rw [ho]; done) | rfl, Eh⟩


theorem drop_at {α : Type} {l : List α} {k : Nat} {x : α} (h : l[k]? = some x) : l.drop k = x :: l.drop (k + 1) := by
  have hk := (List.getElem?_eq_some_iff.1 h).1
  rw [List.drop_eq_getElem_cons hk, (List.getElem?_eq_some_iff.1 h).2]
theorem firstF_at {α : Type} {l : List α} {k : Nat} {x : α} (h : l[k]? = some x) {hk : k < l.length} : l[k] = x := by
  rw [List.getElem?_eq_getElem hk] at h; exact Option.some.inj h

theorem slices_IndexFunc_Limpl_Packet_impl_Packet_ok (v_l : Value) (l : List Pk) (g : Nat) (fs cs : Array Value) (p : Pk → Bool) (h : Heap) (s_l : Sl h v_l l) (in_l : ∀ p ∈ l, Sl h p.sv.v p.sig) (hc : ∀ x ∈ l, ∀ h2, Ext h h2 → Cn g (fs.toList ++ [.agg #[.int .i64 x.message, .int .i64 x.part, .int .i64 x.parts, x.sv.v]] ++ cs.toList) h2 fun r h' => r = .bool (p x) ∧ Ext h2 h') : Cn f_slices_IndexFunc_Limpl_Packet_impl_Packet [v_l, .func (.func g) fs cs] h fun v h' => v = .int .i64 (firstF p l 0) ∧ Ext h h' := by
  have lt_l := s_l.lt
  have l63_l := s_l.len63
  have inlt_l := fun p hp => (in_l p hp).lt
  refine calls_of r_slices_IndexFunc_Limpl_Packet_impl_Packet ?_
  refine v_seq ?_
  refine v_ops ?_
  refine s_pure (.int .i64 0) (fun _ q => q) ?_
  refine s_nil ?_
  refine p_seqN ?_
  refine v_seq ?_
  refine v_seq ?_
  refine v_ops ?_
  refine s_pure v_l (fun _ q => q) ?_
  refine s_pure (.int .i64 (l.length : Int)) (fun _ q => s_l.lenVC q) ?_
  refine s_pure (.int .i64 0) (fun _ q => q) ?_
  refine s_nil ?_
  refine p_seqN ?_
  refine v_block ?_
  refine v_loop1 (α := Nat) (fun k => [(0, v_l), (1, .func (.func g) fs cs), (7, .int .i64 (l.length : Int)), (8, .int .i64 (k : Int))]) (fun k hh => Ext h hh ∧ k ≤ l.length ∧ firstF p l 0 = firstF p (l.drop k) k) (fun k => l.length - k) 0 ⟨rfl, rfl, rfl, rfl⟩ ⟨(Ext.refl h), (by simp)⟩ ?_
  rintro k R2 h1 ⟨Eh, ⟨hk, hF⟩⟩
  have zEh := Eh.size
  have f4 := s_l.ext Eh
  have in5 := fun p hp => (in_l p hp).ext Eh
  refine v_seq ?_
  refine v_ops ?_
  refine s_pure (.bool (decide ((k : Int) < (l.length : Int)))) (fun _ q => q) ?_
  refine s_nil ?_
  refine p_seqN ?_
  refine v_seq ?_
  refine v_cond rfl (fun c6 => ?_) (fun c6 => ?_)
  ·
    refine v_skip ?_
    refine p_seqN ?_
    refine v_seq ?_
    refine v_block ?_
    refine v_seq ?_
    refine v_ops ?_
    refine s_pure (.int .i64 (k : Int)) (fun _ q => q) ?_
    refine s_pure (.int .i64 (k : Int)) (fun _ q => q) ?_
    refine s_nil ?_
    refine p_seqN ?_
    refine v_seq ?_
    refine v_ops ?_
    refine s_pure (.func (.func g) fs cs) (fun _ q => q) ?_
    refine s_pure v_l (fun _ q => q) ?_
    refine s_pure (.int .i64 (k : Int)) (fun _ q => q) ?_
    have hk7 : k < l.length := (by first | omega | (simp; omega))
    obtain ⟨x8, hx8⟩ : ∃ x, l[k]? = some x := ⟨_, List.getElem?_eq_getElem hk7⟩
    refine s_pure (.pointer (some ⟨sblk v_l, soff v_l + k * 4, none⟩)) (fun _ q => f4.idx (k := k) rfl hk7 q) ?_
    have s9 := in5 x8 (List.mem_of_getElem? hx8)
    refine s_load (.agg #[.int .i64 x8.message, .int .i64 x8.part, .int .i64 x8.parts, x8.sv.v]) (fun _ q => f4.loadN hx8 rfl q) ?_
    refine s_callv (fs.toList ++ [.agg #[.int .i64 x8.message, .int .i64 x8.part, .int .i64 x8.parts, x8.sv.v]] ++ cs.toList) rfl rfl (hc x8 (List.mem_of_getElem? hx8) _ Eh) ?_
    rintro _ h10 ⟨rfl, eh10⟩
    have E11 := Eh.trans eh10
    have z12 := eh10.size
    refine s_nil ?_
    refine p_seqN ?_
    refine v_cond rfl (fun c13 => ?_) (fun c13 => ?_)
    ·
      refine v_seq ?_
      refine v_ops ?_
      refine s_pure (.int .i64 (k : Int)) (fun _ q => q) ?_
      refine s_pure (.int .i64 (k : Int)) (fun _ q => q) ?_
      refine s_nil ?_
      refine p_seqN ?_
      refine v_ret ?_
      refine p_blkR ?_
      refine p_seqR ?_
      refine p_lpR ?_
      refine p_blkR ?_
      refine p_seqR ?_
      refine p_ret [.int .i64 (k : Int)] (.int .i64 (k : Int)) (fun _ q => q) rfl ?_
      have ho : firstF p l 0 = (k : Int) := by first | (rw [hF, drop_at (by assumption), firstF]; simp [*]; done) | (rw [hF, List.drop_of_length_le (by omega), firstF])
      exact ⟨by first | (rw [ho]; done) | rfl, E11⟩
    ·
      refine v_skip ?_
      refine p_blkN ?_
      refine p_seqN ?_
      refine v_ops ?_
      refine s_pure (.int .i64 ((k : Int) + 1)) (fun _ q => ArithVC.mk (by omega) q) ?_
      refine s_pure (.int .i64 ((k : Int) + 1)) (fun _ q => q) ?_
      refine s_nil ?_
      exact p_lpN ⟨k + 1, ⟨rfl, rfl, rfl, rfl⟩, ⟨E11, (by exact ⟨by omega, by rw [hF, drop_at (by assumption), firstF]; simp [*]⟩)⟩, by omega⟩
  ·
    refine v_exit ?_
    refine p_seqX ?_
    refine p_lpX ?_
    refine p_blkX ?_
    refine p_seqN ?_
    refine v_seq ?_
    refine v_ops ?_
    refine s_pure (.int .i64 (-1)) (fun _ q => q) ?_
    refine s_nil ?_
    refine p_seqN ?_
    refine v_ret ?_
    refine p_ret [.int .i64 (-1)] (.int .i64 (-1)) (fun _ q => q) rfl ?_
    have ho : firstF p l 0 = (-1) := by first | (rw [hF, drop_at (by assumption), firstF]; simp [*]; done) | (rw [hF, List.drop_of_length_le (by omega), firstF])
    exact ⟨by first | (rw [ho]; done) | rfl, Eh⟩

theorem slices_ContainsFunc_Limpl_Packet_impl_Packet_ok (v_l : Value) (l : List Pk) (g : Nat) (fs cs : Array Value) (p : Pk → Bool) (h : Heap) (s_l : Sl h v_l l) (in_l : ∀ p ∈ l, Sl h p.sv.v p.sig) (hc : ∀ x ∈ l, ∀ h2, Ext h h2 → Cn g (fs.toList ++ [.agg #[.int .i64 x.message, .int .i64 x.part, .int .i64 x.parts, x.sv.v]] ++ cs.toList) h2 fun r h' => r = .bool (p x) ∧ Ext h2 h') : Cn f_slices_ContainsFunc_Limpl_Packet_impl_Packet [v_l, .func (.func g) fs cs] h fun v h' => v = .bool (l.any p) ∧ Ext h h' := by
  have lt_l := s_l.lt
  have l63_l := s_l.len63
  have inlt_l := fun p hp => (in_l p hp).lt
  refine calls_of r_slices_ContainsFunc_Limpl_Packet_impl_Packet ?_
  refine v_seq ?_
  refine v_ops ?_
  refine s_pure (.bool false) (fun _ q => q) ?_
  refine s_nil ?_
  refine p_seqN ?_
  refine v_seq ?_
  refine v_ops ?_
  refine s_pure v_l (fun _ q => q) ?_
  refine s_pure (.func (.func g) fs cs) (fun _ q => q) ?_
  refine s_call [v_l, .func (.func g) fs cs] rfl (slices_IndexFunc_Limpl_Packet_impl_Packet_ok v_l l g fs cs p _ s_l in_l hc) ?_
  rintro _ h1 ⟨rfl, eh1⟩
  have E2 := (Ext.refl h).trans eh1
  have z3 := eh1.size
  refine s_pure (.bool (decide ((firstF p l 0) ≥ 0))) (fun _ q => q) ?_
  refine s_pure (.bool (decide ((firstF p l 0) ≥ 0))) (fun _ q => q) ?_
  refine s_nil ?_
  refine p_seqN ?_
  refine v_ret ?_
  refine p_ret [.bool (decide ((firstF p l 0) ≥ 0))] (.bool (decide ((firstF p l 0) ≥ 0))) (fun _ q => q) rfl ?_
  have ho : l.any p = (decide ((firstF p l 0) ≥ 0)) := by rw [Bool.eq_iff_iff, decide_eq_true_eq]; exact (firstF_nonneg p l 0).symm
  exact ⟨by first | (rw [ho]; done) | rfl, E2⟩

theorem impl_ArePackets_1_ok (p : PkP) (v_p_signals : Value) (h : Heap) (s_p_signals : Sl h v_p_signals p.signals) : Cn f_impl_ArePackets_1 [.agg #[.int .i64 p.message, .int .i64 p.part, .int .i64 p.parts, v_p_signals]] h fun v h' => v = .bool (!decide (PkOk p)) ∧ Ext h h' := by
  have lt_p_signals := s_p_signals.lt
  have l63_p_signals := s_p_signals.len63
  refine calls_of r_impl_ArePackets_1 ?_
  refine v_seq ?_
  refine v_ops ?_
  refine s_box [.int .i64 p.message, .int .i64 p.part, .int .i64 p.parts, v_p_signals] rfl (fun h2 b1 hbb1 hzb1 eh2 bxb1 => ?_)
  have E3 := (Ext.refl h).trans eh2
  have z4 := eh2.size
  have lbb1 := bxb1.lt
  refine s_pure (.bool false) (fun _ q => q) ?_
  refine s_nil ?_
  refine p_seqN ?_
  refine v_seq ?_
  refine v_ops ?_
  refine s_load (.agg #[.int .i64 p.message, .int .i64 p.part, .int .i64 p.parts, v_p_signals]) (fun _ q => bxb1.loadA rfl q) ?_
  have f5 := (s_p_signals.ext eh2)
  refine s_call [.agg #[.int .i64 p.message, .int .i64 p.part, .int .i64 p.parts, v_p_signals]] rfl (impl_IsPacket_ok p v_p_signals _ f5) ?_
  rintro _ h6 ⟨rfl, eh6⟩
  have E7 := E3.trans eh6
  have z8 := eh6.size
  refine s_pure (.bool (!decide (PkOk p))) (fun _ q => q) ?_
  refine s_pure (.bool (!decide (PkOk p))) (fun _ q => q) ?_
  refine s_nil ?_
  refine p_seqN ?_
  refine v_ret ?_
  refine p_ret [.bool (!decide (PkOk p))] (.bool (!decide (PkOk p))) (fun _ q => q) rfl ?_
  have ho : (!decide (PkOk p)) = (!decide (PkOk p)) := by rfl
  exact ⟨by first | (rw [ho]; done) | rfl, E7⟩

theorem impl_ArePackets_ok (v_l : Value) (l : List Pk) (d_l : List (PkP)) (h : Heap) (s_l : Sl h v_l l) (in_l : ∀ p ∈ l, Sl h p.sv.v p.sig) (hd_l : l.map Pk.p = d_l) : Cn f_impl_ArePackets [v_l] h fun v h' => v = .bool (decide (PksOk d_l)) ∧ Ext h h' := by
  subst hd_l
  have lt_l := s_l.lt
  have l63_l := s_l.len63
  have inlt_l := fun p hp => (in_l p hp).lt
  refine calls_of r_impl_ArePackets ?_
  refine v_seq ?_
  refine v_ops ?_
  refine s_pure (.bool false) (fun _ q => q) ?_
  refine s_nil ?_
  refine p_seqN ?_
  refine v_seq ?_
  refine v_ops ?_
  refine s_pure v_l (fun _ q => q) ?_
  refine s_pure (.int .i64 (l.length : Int)) (fun _ q => s_l.lenVC q) ?_
  refine s_pure (.bool (decide ((l.length : Int) ≤ 40))) (fun _ q => q) ?_
  refine s_pure (.bool (decide ((l.length : Int) ≤ 40))) (fun _ q => q) ?_
  refine s_splitT rfl (fun c1 => ?_) (fun c1 => ?_)
  ·
    refine s_run rfl ?_
    refine s_pure v_l (fun _ q => q) ?_
    refine s_run rfl ?_
    refine s_call [v_l, .func (.func 84) #[] #[]] rfl (slices_ContainsFunc_Limpl_Packet_impl_Packet_ok v_l l 84 #[] #[] (fun x : Pk => (!decide (PkOk x.p))) _ s_l in_l (fun x hx h2 e2 => impl_ArePackets_1_ok x.p x.sv.v h2 ((in_l x hx).ext e2))) ?_
    rintro _ h2 ⟨rfl, eh2⟩
    have E3 := (Ext.refl h).trans eh2
    have z4 := eh2.size
    refine s_run rfl ?_
    refine s_pure (.bool (!(l.any (fun x : Pk => (!decide (PkOk x.p)))))) (fun _ q => q) ?_
    refine s_pure (.bool (!(l.any (fun x : Pk => (!decide (PkOk x.p)))))) (fun _ q => q) ?_
    refine s_pure (.bool (!(l.any (fun x : Pk => (!decide (PkOk x.p)))))) (fun _ q => q) ?_
    refine s_nil ?_
    refine p_seqN ?_
    refine v_ret ?_
    refine p_ret [.bool (!(l.any (fun x : Pk => (!decide (PkOk x.p)))))] (.bool (!(l.any (fun x : Pk => (!decide (PkOk x.p)))))) (fun _ q => q) rfl ?_
    have ho : decide (PksOk (l.map Pk.p)) = (!(l.any (fun x : Pk => (!decide (PkOk x.p))))) := by first | exact pks_long (by omega) | (rw [Bool.eq_iff_iff]; simp [PksOk, *]; try (intro _; omega))
    exact ⟨by first | (rw [ho]; done) | rfl, E3⟩
  ·
    refine s_pass rfl ?_
    refine s_pass rfl ?_
    refine s_pass rfl ?_
    refine s_pure (.bool false) (fun _ q => q) ?_
    refine s_pure (.bool false) (fun _ q => q) ?_
    refine s_nil ?_
    refine p_seqN ?_
    refine v_ret ?_
    refine p_ret [.bool false] (.bool false) (fun _ q => q) rfl ?_
    have ho : decide (PksOk (l.map Pk.p)) = false := by first | exact pks_long (by omega) | (rw [Bool.eq_iff_iff]; simp [PksOk, *]; try (intro _; omega))
    exact ⟨by first | (rw [ho]; done) | rfl, (Ext.refl h)⟩

end Go.Proofs.YtbikhpphdhffaaaGreatDoor
