/- Sorted packets: the code. Condition: none. Printed in part by a program. -/
import Derived.Test.YtjmcijcdncgaiaaPk13
namespace Go.Proofs.Ytjmcijcdncgaiaa
open Go.Vc
set_option linter.all false

theorem perm_of {ps q : List Pk} (h : Like pkKey ps q 0 ps.length) : q.Perm ps := by
  classical
  rw [List.perm_iff_count]
  intro x
  have key : ∀ d : List Pk, d.count x = (d.filter fun y => decide (pkKey y = pkKey x)).count x := by
    intro d
    rw [List.count_filter (by simp)]
  rw [key q, key ps, h.cls (pkKey x)]
theorem DeepO.perm {h h' : Heap} {v : Value} {ps q : List Pk} {lo : Nat} (D : DeepO h v ps lo) (hp : q.Perm ps) (s' : SlO h' v q) (m : Mod (blks v) h h') : DeepO h' v q lo :=
  ⟨s', fun p hq => (D.ins p (hp.mem_iff.1 hq)).mod m (D.off p (hp.mem_iff.1 hq)), fun b hb => by
    rcases mem_fpts.1 hb with hb | ⟨p, hq, hb⟩
    · exact D.fr b (mem_fpts.2 (.inl hb))
    · exact D.fr b (mem_fpts.2 (.inr ⟨p, hp.mem_iff.1 hq, hb⟩)), fun p hq => D.off p (hp.mem_iff.1 hq),
    (hp.pairwise_iff (fun {p q} hpq b hb hc => hpq b hc hb)).2 D.apart⟩
theorem DeepO.mid {h : Heap} {v v' : Value} {ps : List Pk} {lo k : Nat} {e : Pk} (D : DeepO h v ps lo) (se : SlO h e.sv.v e.sig) (fe : Fr lo e.sv.v) (ap : ∀ b ∈ blks e.sv.v, b ∉ fpts v ps) (s' : SlO h v' (ps.take k ++ [e] ++ ps.drop k)) (f' : Fr lo v')
    (o1 : ∀ b ∈ fpts v ps, b ∉ blks v') (o2 : ∀ b ∈ blks e.sv.v, b ∉ blks v') : DeepO h v' (ps.take k ++ [e] ++ ps.drop k) lo := by
  have hin : ∀ p ∈ ps.take k ++ [e] ++ ps.drop k, p ∈ ps ∨ p = e := by
    intro p hp
    rcases List.mem_append.1 hp with hp | hp
    · rcases List.mem_append.1 hp with hp | hp
      · exact .inl (List.mem_of_mem_take hp)
      · exact .inr (List.mem_singleton.1 hp)
    · exact .inl (List.mem_of_mem_drop hp)
  refine ⟨s', fun p hp => ?_, fun b hb => ?_, fun p hp b hb => ?_, ?_⟩
  · rcases hin p hp with hp | rfl
    · exact D.ins p hp
    · exact se
  · rcases mem_fpts.1 hb with hb2 | ⟨p, hp, hb2⟩
    · exact f' b hb2
    · rcases hin p hp with hp | rfl
      · exact D.fr b (mem_fpts.2 (.inr ⟨p, hp, hb2⟩))
      · exact fe b hb2
  · rcases hin p hp with hp | rfl
    · exact o1 b (mem_fpts.2 (.inr ⟨p, hp, hb⟩))
    · exact o2 b hb
  · have hA := D.apart
    rw [← List.take_append_drop k ps, List.pairwise_append] at hA
    rw [List.pairwise_append, List.pairwise_append]
    refine ⟨⟨hA.1, List.pairwise_singleton _ _, fun p hp q hq b hb hc => ?_⟩, hA.2.1, fun p hp q hq b hb hc => ?_⟩
    · obtain rfl := List.mem_singleton.1 hq
      exact ap b hc (mem_fpts.2 (.inr ⟨p, List.mem_of_mem_take hp, hb⟩))
    · rcases List.mem_append.1 hp with hp | hp
      · exact hA.2.2 p hp q hq b hb hc
      · obtain rfl := List.mem_singleton.1 hp
        exact ap b hb (mem_fpts.2 (.inr ⟨q, List.mem_of_mem_drop hq, hc⟩))
theorem keep_take {ps l : List Pk} {k : Nat} {x e : Pk} (hps : ps.map Pk.p = (l.map Pk.p).take k) (hx : l[k]? = some x) (he : e.p = x.p) : (ps ++ [e]).map Pk.p = (l.map Pk.p).take (k + 1) := by
  rw [snoc_get (map_get hx), ← hps, List.map_append, ← he]; rfl

set_option maxRecDepth 10000 in
set_option maxHeartbeats 4000000 in
theorem impl_SortPackets_ok (v_l : Value) (l : List Pk) (d_l : List (PkP)) (h : Heap) (s_l : Sl h v_l l) (in_l : ∀ p ∈ l, Sl h p.sv.v p.sig) (hd_l : l.map Pk.p = d_l) : Cn f_impl_SortPackets [v_l] h fun v h' => ∃ r0 : Value, ∃ qr0 : List Pk, v = .tuple #[r0, .bool ((srtOut d_l).2)] ∧ DeepO h' r0 qr0 h.size ∧ qr0.map Pk.p = (srtOut d_l).1 ∧ Ext h h' := by
  subst hd_l
  have lt_l := s_l.lt
  have l63_l := s_l.len63
  have inlt_l := fun p hp => (in_l p hp).lt
  refine calls_of r_impl_SortPackets ?_
  refine v_seq ?_
  refine v_ops ?_
  refine s_pure (.slice none 0 0) (fun _ q => q) ?_
  refine s_pure (.bool false) (fun _ q => q) ?_
  refine s_nil ?_
  refine p_seqN ?_
  refine v_seq ?_
  refine v_seq ?_
  refine v_ops ?_
  refine s_pure v_l (fun _ q => q) ?_
  refine s_call [v_l] rfl (impl_ArePackets_ok v_l l (l.map Pk.p) _ s_l in_l rfl) ?_
  rintro _ h1 ⟨rfl, eh1⟩
  have E2 := (Ext.refl h).trans eh1
  have z3 := eh1.size
  refine s_pure (.bool (!decide (PksOk (l.map Pk.p)))) (fun _ q => q) ?_
  refine s_nil ?_
  refine p_seqN ?_
  refine v_cond rfl (fun c4 => ?_) (fun c4 => ?_)
  ·
    refine v_seq ?_
    refine v_ops ?_
    refine s_pure (.slice none 0 0) (fun _ q => q) ?_
    refine s_pure (.bool false) (fun _ q => q) ?_
    refine s_nil ?_
    refine p_seqN ?_
    refine v_ret ?_
    refine p_seqR ?_
    refine p_ret [.slice none 0 0, .bool false] (.tuple #[.slice none 0 0, .bool false]) (fun _ q => q) rfl ?_
    have ho : srtOut (l.map Pk.p) = ([], false) := by first | exact so_no (by assumption) | exact so_impl (by assumption) hps (by assumption) (by assumption)
    exact ⟨(.slice none 0 0), [], by first | (rw [ho]; done) | rfl, DeepO.nil _ _, (congrArg (fun o => o.1) ho).symm, E2⟩
  ·
    have c4 := Classical.not_not.1 c4
    refine v_skip ?_
    refine p_seqN ?_
    refine v_seq ?_
    refine v_ops ?_
    refine s_pure (.slice none 0 0) (fun _ q => q) ?_
    refine s_nil ?_
    refine p_seqN ?_
    refine v_seq ?_
    refine v_seq ?_
    refine v_ops ?_
    refine s_pure v_l (fun _ q => q) ?_
    refine s_pure (.int .i64 (l.length : Int)) (fun _ q => s_l.lenVC q) ?_
    refine s_pure (.int .i64 0) (fun _ q => q) ?_
    refine s_nil ?_
    refine p_seqN ?_
    refine v_block ?_
    have hl40 : l.length ≤ 40 := by (have h4 := (by assumption : PksOk (l.map Pk.p)).1); simpa using h4
    refine v_loop3 (α := Nat) (β := List Pk) (γ := Value) (fun k ps o => [(4, o), (10, v_l), (11, .int .i64 (l.length : Int)), (12, .int .i64 (k : Int))]) (fun k ps o hh => Ext h hh ∧ DeepO hh o ps h.size ∧ k ≤ l.length ∧ ps.map Pk.p = (l.map Pk.p).take k) (fun k ps o => l.length - k) 0 [] (.slice none 0 0) ⟨rfl, rfl, rfl, rfl⟩ ⟨E2, (DeepO.nil _ _), (by simp)⟩ ?_
    rintro k ps o R6 h5 ⟨Eh, s_o, ⟨hk, hps⟩⟩
    have zEh := Eh.size
    have f7 := s_l.ext Eh
    have in8 := fun p hp => (in_l p hp).ext Eh
    have lt_o := s_o.lt
    have fr_o := s_o.fr
    have hpl : ps.length ≤ 40 := by (have h1 := congrArg List.length hps); simp only [List.length_map, List.length_take] at h1; omega
    refine v_seq ?_
    refine v_ops ?_
    refine s_pure (.bool (decide ((k : Int) < (l.length : Int)))) (fun _ q => q) ?_
    refine s_nil ?_
    refine p_seqN ?_
    refine v_seq ?_
    refine v_cond rfl (fun c9 => ?_) (fun c9 => ?_)
    ·
      refine v_skip ?_
      refine p_seqN ?_
      refine v_seq ?_
      refine v_block ?_
      refine v_seq ?_
      refine v_ops ?_
      have hk10 : k < l.length := (by first | omega | (simp; omega))
      obtain ⟨x11, hx11⟩ : ∃ x, l[k]? = some x := ⟨_, List.getElem?_eq_getElem hk10⟩
      refine s_pure (.pointer (some ⟨sblk v_l, soff v_l + k * 4, none⟩)) (fun _ q => f7.idx (k := k) rfl hk10 q) ?_
      have s12 := in8 x11 (List.mem_of_getElem? hx11)
      refine s_load (.agg #[.int .i64 x11.message, .int .i64 x11.part, .int .i64 x11.parts, x11.sv.v]) (fun _ q => f7.loadN hx11 rfl q) ?_
      refine s_new (fun h14 b13 hbb13 hzb13 eh14 bxb13 => ?_)
      have E15 := Eh.trans eh14
      have z16 := eh14.size
      have lbb13 := bxb13.lt
      refine s_stBx (.agg #[.int .i64 x11.message, .int .i64 x11.part, .int .i64 x11.parts, x11.sv.v]) [.int .i64 x11.message, .int .i64 x11.part, .int .i64 x11.parts, x11.sv.v] [.int .i64 x11.message, .int .i64 x11.part, .int .i64 x11.parts, x11.sv.v] bxb13 rfl rfl rfl rfl (by simp) (all_cons rfl (all_cons rfl (all_cons rfl (all_cons s12.one1 all_nil)))) rfl (fun h17 mh17 sh17 bxx18 => ?_)
      have E19 := E15.mod mh17 (fun b hb => by simp at hb; omega)
      refine s_nil ?_
      refine p_seqN ?_
      refine v_ops ?_
      refine s_pure o (fun _ q => q) ?_
      refine s_load (.agg #[.int .i64 x11.message, .int .i64 x11.part, .int .i64 x11.parts, x11.sv.v]) (fun _ q => bxx18.loadA rfl q) ?_
      have f20 := ((s12.ext eh14).mod mh17 (fun b hb hc => by simp at hc; have := (inlt_l x11 (List.mem_of_getElem? hx11)) b hb; omega))
      refine s_call [.agg #[.int .i64 x11.message, .int .i64 x11.part, .int .i64 x11.parts, x11.sv.v]] rfl (impl_clonePacket_ok (Pk.p x11) x11.sv.v _ f20 (by (have h3 := (by assumption : PksOk (l.map Pk.p)).2 _ (List.mem_map_of_mem (List.mem_of_getElem? (by assumption : l[k]? = some _)))); (have h4 := h3.2.2.2.1); simp only at h4 ⊢; omega)) ?_
      rintro _ h22 ⟨r21, rfl, s_r21, fr_r21, eh22⟩
      have E23 := E19.trans eh22
      have z24 := eh22.size
      have lt_r21 := s_r21.lt
      obtain ⟨sv25, rfl⟩ := s_r21.sv
      refine s_row (α := Pk) [(⟨(Pk.p x11).message, (Pk.p x11).part, (Pk.p x11).parts, sv25, (Pk.p x11).signals⟩ : Pk)] (fun _ q => seg_agg rfl rfl (seg_nil q)) rfl (by simp [maxLen]) (fun r26 h27 eh27 zh27 s_r26 fr_r26 => ?_)
      have E28 := E23.trans eh27
      have z29 := eh27.size
      have lt_r26 := s_r26.lt
      have f32 := (s_r21.ext eh27)
      have f33 := ((((s_o.ext eh14).mod mh17 (fun b hb hc => by simp at hc; have := lt_o b hb; omega)).ext eh22).ext eh27)
      refine s_app f33.row s_r26 rfl rfl rfl (by simp [maxLen]; omega) (by simp; omega) (fun r30 h31 mh31 zh31 s_r30 ab_r30 => ?_)
      have D_r30 := DeepO.snoc (e := (⟨(Pk.p x11).message, (Pk.p x11).part, (Pk.p x11).parts, sv25, (Pk.p x11).signals⟩ : Pk)) f33 f32 (fr_r21.mono (by omega)) (fun b hb hc => by have := fr_r21 b hb; have := lt_o b hc; omega) (by omega) mh31 s_r30 ab_r30
      have E34 := E28.mod mh31 (fun b hb => by have := (fun b hb => fr_o b (mem_fpts.2 (.inl hb))) b hb; omega)
      have lt_r30 := D_r30.lt
      have fr_r30 := D_r30.fr
      have np35a : ∀ b ∈ blks v_l, b ∉ fpts o ps := (fun b hb hc => by have := lt_l b hb; have := fr_o b hc; omega)
      have np35b : ∀ b ∈ blks v_l, b ∉ blks sv25.v := (fun b hb hc => by have := lt_l b hb; have := fr_r21 b hc; omega)
      have np35 : ∀ b ∈ blks v_l, b ∉ fpts r30 (ps ++ [(⟨(Pk.p x11).message, (Pk.p x11).part, (Pk.p x11).parts, sv25, (Pk.p x11).signals⟩ : Pk)]) := fun b hb => DeepO.snocOut ab_r30 (np35a b hb) (np35b b hb) (by have := lt_l b hb; omega)
      have np36a : ∀ b ∈ blks x11.sv.v, b ∉ fpts o ps := (fun b hb hc => by have := (inlt_l x11 (List.mem_of_getElem? hx11)) b hb; have := fr_o b hc; omega)
      have np36b : ∀ b ∈ blks x11.sv.v, b ∉ blks sv25.v := (fun b hb hc => by have := (inlt_l x11 (List.mem_of_getElem? hx11)) b hb; have := fr_r21 b hc; omega)
      have np36 : ∀ b ∈ blks x11.sv.v, b ∉ fpts r30 (ps ++ [(⟨(Pk.p x11).message, (Pk.p x11).part, (Pk.p x11).parts, sv25, (Pk.p x11).signals⟩ : Pk)]) := fun b hb => DeepO.snocOut ab_r30 (np36a b hb) (np36b b hb) (by have := (inlt_l x11 (List.mem_of_getElem? hx11)) b hb; omega)
      have np37 : b13 ∉ fpts r30 (ps ++ [(⟨(Pk.p x11).message, (Pk.p x11).part, (Pk.p x11).parts, sv25, (Pk.p x11).signals⟩ : Pk)]) := DeepO.snocOut ab_r30 (fun hc => by have := lt_o _ hc; omega) (fun hc => by have := fr_r21 _ hc; omega) (by omega)
      refine s_pure r30 (fun _ q => q) ?_
      refine s_nil ?_
      refine p_blkN ?_
      refine p_seqN ?_
      refine v_ops ?_
      refine s_pure (.int .i64 ((k : Int) + 1)) (fun _ q => ArithVC.mk (by omega) q) ?_
      refine s_pure (.int .i64 ((k : Int) + 1)) (fun _ q => q) ?_
      refine s_nil ?_
      exact p_lpN ⟨k + 1, (ps ++ [(⟨(Pk.p x11).message, (Pk.p x11).part, (Pk.p x11).parts, sv25, (Pk.p x11).signals⟩ : Pk)]), r30, ⟨rfl, rfl, rfl, rfl⟩, ⟨E34, (D_r30.mono (by omega)), (by exact ⟨by omega, keep_take (x := x11) hps (by assumption) rfl⟩)⟩, by omega⟩
    ·
      refine v_exit ?_
      refine p_seqX ?_
      refine p_lpX ?_
      refine p_blkX ?_
      refine p_seqN ?_
      refine v_seq ?_
      refine v_ops ?_
      refine s_pure o (fun _ q => q) ?_
      refine s_call [o, .func (.func 66) #[] #[]] rfl (slices_SortStableFunc_Limpl_Packet_impl_Packet_ok o ps _ s_o.row (by omega)) ?_
      rintro _ h38 ⟨rfl, q40, s39, mh38, hp41⟩
      have zh38 := mh38.size
      have hlq40 := hp41.1.len
      have D42 := DeepO.perm s_o (perm_of hp41.1) s39 mh38
      have E43 := Eh.mod mh38 (fun b hb => by have := (fun b hb => fr_o b (mem_fpts.2 (.inl hb))) b hb; omega)
      have frD42 := D42.fr
      have ltD42 := D42.lt
      refine s_nil ?_
      refine p_seqN ?_
      refine v_seq ?_
      refine v_ops ?_
      refine s_pure o (fun _ q => q) ?_
      refine s_pure o (fun _ q => q) ?_
      refine s_pure (.bool true) (fun _ q => q) ?_
      refine s_nil ?_
      refine p_seqN ?_
      refine v_ret ?_
      refine p_ret [o, .bool true] (.tuple #[o, .bool true]) (fun _ q => q) rfl ?_
      have ho : srtOut (l.map Pk.p) = ((q40.map Pk.p), true) := by first | exact so_no (by assumption) | exact so_impl (by assumption) hps (by assumption) (by assumption)
      exact ⟨o, q40, by first | (rw [ho]; done) | rfl, (D42.mono (by omega)), (congrArg (fun o => o.1) ho).symm, E43⟩

set_option maxRecDepth 10000 in
set_option maxHeartbeats 4000000 in
theorem spec_SortPackets_ok (v_l : Value) (l : List Pk) (d_l : List (PkP)) (h : Heap) (s_l : Sl h v_l l) (in_l : ∀ p ∈ l, Sl h p.sv.v p.sig) (hd_l : l.map Pk.p = d_l) : Cn f_spec_SortPackets [v_l] h fun v h' => ∃ r0 : Value, ∃ qr0 : List Pk, v = .tuple #[r0, .bool ((srtOut d_l).2)] ∧ DeepO h' r0 qr0 h.size ∧ qr0.map Pk.p = (srtOut d_l).1 ∧ Ext h h' := by
  subst hd_l
  have lt_l := s_l.lt
  have l63_l := s_l.len63
  have inlt_l := fun p hp => (in_l p hp).lt
  refine calls_of r_spec_SortPackets ?_
  refine v_seq ?_
  refine v_ops ?_
  refine s_pure (.slice none 0 0) (fun _ q => q) ?_
  refine s_pure (.bool false) (fun _ q => q) ?_
  refine s_nil ?_
  refine p_seqN ?_
  refine v_seq ?_
  refine v_seq ?_
  refine v_ops ?_
  refine s_pure v_l (fun _ q => q) ?_
  refine s_call [v_l] rfl (spec_pkAll_ok v_l l (l.map Pk.p) _ s_l in_l rfl) ?_
  rintro _ h1 ⟨rfl, eh1⟩
  have E2 := (Ext.refl h).trans eh1
  have z3 := eh1.size
  refine s_pure (.bool (!decide (PksOk (l.map Pk.p)))) (fun _ q => q) ?_
  refine s_nil ?_
  refine p_seqN ?_
  refine v_cond rfl (fun c4 => ?_) (fun c4 => ?_)
  ·
    refine v_seq ?_
    refine v_ops ?_
    refine s_pure (.slice none 0 0) (fun _ q => q) ?_
    refine s_pure (.bool false) (fun _ q => q) ?_
    refine s_nil ?_
    refine p_seqN ?_
    refine v_ret ?_
    refine p_seqR ?_
    refine p_ret [.slice none 0 0, .bool false] (.tuple #[.slice none 0 0, .bool false]) (fun _ q => q) rfl ?_
    have ho : srtOut (l.map Pk.p) = ([], false) := by first | exact so_no (by assumption) | exact so_spec (by assumption) hps (by assumption)
    exact ⟨(.slice none 0 0), [], by first | (rw [ho]; done) | rfl, DeepO.nil _ _, (congrArg (fun o => o.1) ho).symm, E2⟩
  ·
    have c4 := Classical.not_not.1 c4
    refine v_skip ?_
    refine p_seqN ?_
    refine v_seq ?_
    refine v_ops ?_
    refine s_pure (.slice none 0 0) (fun _ q => q) ?_
    refine s_nil ?_
    refine p_seqN ?_
    refine v_seq ?_
    refine v_seq ?_
    refine v_ops ?_
    refine s_pure v_l (fun _ q => q) ?_
    refine s_pure (.int .i64 (l.length : Int)) (fun _ q => s_l.lenVC q) ?_
    refine s_pure (.int .i64 0) (fun _ q => q) ?_
    refine s_nil ?_
    refine p_seqN ?_
    refine v_block ?_
    have hl40 : l.length ≤ 40 := by (have h4 := (by assumption : PksOk (l.map Pk.p)).1); simpa using h4
    refine v_loop3 (α := Nat) (β := List Pk) (γ := Value) (fun k ps o => [(4, o), (11, v_l), (12, .int .i64 (l.length : Int)), (13, .int .i64 (k : Int))]) (fun k ps o hh => Ext h hh ∧ DeepO hh o ps h.size ∧ k ≤ l.length ∧ ps.map Pk.p = srtL ((l.map Pk.p).take k)) (fun k ps o => l.length - k) 0 [] (.slice none 0 0) ⟨rfl, rfl, rfl, rfl⟩ ⟨E2, (DeepO.nil _ _), (by simp [srtL])⟩ ?_
    rintro k ps o R6 h5 ⟨Eh, s_o, ⟨hk, hps⟩⟩
    have zEh := Eh.size
    have f7 := s_l.ext Eh
    have in8 := fun p hp => (in_l p hp).ext Eh
    have lt_o := s_o.lt
    have fr_o := s_o.fr
    have hpl : ps.length ≤ 40 := by (have h1 := congrArg List.length hps); simp only [List.length_map, srt_len, List.length_take] at h1; omega
    refine v_seq ?_
    refine v_ops ?_
    refine s_pure (.bool (decide ((k : Int) < (l.length : Int)))) (fun _ q => q) ?_
    refine s_nil ?_
    refine p_seqN ?_
    refine v_seq ?_
    refine v_cond rfl (fun c9 => ?_) (fun c9 => ?_)
    ·
      refine v_skip ?_
      refine p_seqN ?_
      refine v_seq ?_
      refine v_block ?_
      refine v_seq ?_
      refine v_ops ?_
      have hk10 : k < l.length := (by first | omega | (simp; omega))
      obtain ⟨x11, hx11⟩ : ∃ x, l[k]? = some x := ⟨_, List.getElem?_eq_getElem hk10⟩
      refine s_pure (.pointer (some ⟨sblk v_l, soff v_l + k * 4, none⟩)) (fun _ q => f7.idx (k := k) rfl hk10 q) ?_
      have s12 := in8 x11 (List.mem_of_getElem? hx11)
      refine s_load (.agg #[.int .i64 x11.message, .int .i64 x11.part, .int .i64 x11.parts, x11.sv.v]) (fun _ q => f7.loadN hx11 rfl q) ?_
      refine s_new (fun h14 b13 hbb13 hzb13 eh14 bxb13 => ?_)
      have E15 := Eh.trans eh14
      have z16 := eh14.size
      have lbb13 := bxb13.lt
      refine s_stBx (.agg #[.int .i64 x11.message, .int .i64 x11.part, .int .i64 x11.parts, x11.sv.v]) [.int .i64 x11.message, .int .i64 x11.part, .int .i64 x11.parts, x11.sv.v] [.int .i64 x11.message, .int .i64 x11.part, .int .i64 x11.parts, x11.sv.v] bxb13 rfl rfl rfl rfl (by simp) (all_cons rfl (all_cons rfl (all_cons rfl (all_cons s12.one1 all_nil)))) rfl (fun h17 mh17 sh17 bxx18 => ?_)
      have E19 := E15.mod mh17 (fun b hb => by simp at hb; omega)
      refine s_nil ?_
      refine p_seqN ?_
      refine v_seq ?_
      refine v_ops ?_
      refine s_pure o (fun _ q => q) ?_
      refine s_pure (.int .i64 (ps.length : Int)) (fun _ q => s_o.row.lenVC q) ?_
      refine s_pure (.int .i64 (ps.length : Int)) (fun _ q => q) ?_
      refine s_nil ?_
      refine p_seqN ?_
      refine v_seq ?_
      refine v_block ?_
      have nk21 : b13 ∉ fpts o ps := (fun hc => by have := lt_o _ hc; omega)
      have f22 := ((s_o.ext eh14).mod mh17 (fun b hb hc => by simp at hc; have := lt_o b hb; omega))
      refine v_loop1 (α := Int) (fun j => [(4, o), (6, .pointer (some ⟨b13, 0, none⟩)), (7, .int .i64 j), (11, v_l), (12, .int .i64 (l.length : Int)), (13, .int .i64 (k : Int))]) (fun j hh => Ext h hh ∧ Bx hh b13 [.int .i64 x11.message, .int .i64 x11.part, .int .i64 x11.parts, x11.sv.v] 27 ∧ DeepO hh o ps h.size ∧ 0 ≤ j ∧ j ≤ (ps.length : Int) ∧ ∀ (i : Nat) y, j ≤ (i : Int) → ps[i]? = some y → ltK (pkKey x11) (pkKey y)) (fun j => j.toNat) (ps.length : Int) ⟨rfl, rfl, rfl, rfl, rfl, rfl⟩ ⟨E19, bxx18, (f22.mono (by omega)), (by exact ⟨by omega, by omega, fun i y hi hy => by (have := (List.getElem?_eq_some_iff.1 hy).1); omega⟩)⟩ ?_
      rintro j R23 h20 ⟨Eh, bxb13, s_o, ⟨hj0, hjl, hJ⟩⟩
      have zEh := Eh.size
      have f24 := s_l.ext Eh
      have in25 := fun p hp => (in_l p hp).ext Eh
      have lbb13 := bxb13.lt
      have s26 := in25 x11 (List.mem_of_getElem? hx11)
      refine v_seq ?_
      refine v_seq ?_
      refine v_ops ?_
      refine s_pure (.int .i64 j) (fun _ q => q) ?_
      refine s_pure (.bool (decide (j > 0))) (fun _ q => q) ?_
      refine s_pure (.bool (decide (j > 0))) (fun _ q => q) ?_
      refine s_splitT rfl (fun c27 => ?_) (fun c27 => ?_)
      ·
        refine s_run rfl ?_
        refine s_pure o (fun _ q => q) ?_
        refine s_run rfl ?_
        refine s_pure (.int .i64 j) (fun _ q => q) ?_
        refine s_run rfl ?_
        refine s_pure (.int .i64 (j - 1)) (fun _ q => ArithVC.mk (by omega) q) ?_
        refine s_run rfl ?_
        have hk28 : ((j - 1)).toNat < ps.length := (by first | omega | (simp; omega))
        obtain ⟨x29, hx29⟩ : ∃ x, ps[((j - 1)).toNat]? = some x := ⟨_, List.getElem?_eq_getElem hk28⟩
        refine s_pure (.pointer (some ⟨sblk o, soff o + (((j - 1)).toNat) * 4, none⟩)) (fun _ q => s_o.row.idx (k := ((j - 1)).toNat) (by omega) hk28 q) ?_
        refine s_run rfl ?_
        refine s_pure (.pointer (some ⟨sblk o, soff o + (((j - 1)).toNat) * 4, none⟩)) (fun _ q => q) ?_
        refine s_run rfl ?_
        refine s_pure (.pointer (some ⟨b13, 0, none⟩)) (fun _ q => q) ?_
        refine s_run rfl ?_
        have s30 := s_o.insL x29 (List.mem_of_getElem? hx29)
        refine s_load (.int .i64 x29.message) (fun _ q => s_o.row.load hx29 (j := 0) rfl rfl q) ?_
        refine s_run rfl ?_
        refine s_load (.int .i64 x11.message) (fun _ q => bxb13.load rfl q) ?_
        refine s_run rfl ?_
        refine s_pure (.bool (decide (x29.message > x11.message))) (fun _ q => q) ?_
        refine s_run rfl ?_
        refine s_pure (.bool (decide (x29.message > x11.message))) (fun _ q => q) ?_
        refine s_splitT rfl (fun c31 => ?_) (fun c31 => ?_)
        ·
          refine s_pass rfl ?_
          refine s_pass rfl ?_
          refine s_pass rfl ?_
          refine s_pass rfl ?_
          refine s_pass rfl ?_
          refine s_pass rfl ?_
          refine s_pass rfl ?_
          refine s_pass rfl ?_
          refine s_pass rfl ?_
          refine s_pass rfl ?_
          refine s_splitU rfl ?_
          refine s_passU rfl ?_
          refine s_passU rfl ?_
          refine s_passU rfl ?_
          refine s_passU rfl ?_
          refine s_passU rfl ?_
          refine s_passU rfl ?_
          refine s_passU rfl ?_
          refine s_passU rfl ?_
          refine s_passU rfl ?_
          refine s_pass rfl ?_
          refine s_run rfl ?_
          refine s_pure (.bool true) (fun _ q => q) ?_
          refine s_pure (.bool true) (fun _ q => q) ?_
          refine s_nil ?_
          refine p_seqN ?_
          refine v_condY rfl rfl ?_
          refine v_skip ?_
          refine p_seqN ?_
          refine v_block ?_
          refine v_ops ?_
          refine s_pure (.int .i64 j) (fun _ q => q) ?_
          refine s_pure (.int .i64 (j - 1)) (fun _ q => ArithVC.mk (by omega) q) ?_
          refine s_pure (.int .i64 (j - 1)) (fun _ q => q) ?_
          refine s_nil ?_
          refine p_blkN ?_
          exact p_lpN ⟨(j - 1), ⟨rfl, rfl, rfl, rfl, rfl, rfl⟩, ⟨Eh, bxb13, (s_o.mono (by omega)), (by refine ⟨by omega, by omega, fun i y hi hy => ?_⟩; (by_cases hij : j ≤ (i : Int)); exact hJ i y hij hy; (have hii : i = (j - 1).toNat := by omega); subst hii; (obtain rfl := Option.some.inj (hy.symm.trans (by assumption : ps[(j - 1).toNat]? = some x29))); (show _ < _ ∨ (_ = _ ∧ _ < _)); simp only; omega)⟩, by omega⟩
        ·
          refine s_run rfl ?_
          refine s_pure o (fun _ q => q) ?_
          refine s_run rfl ?_
          refine s_pure (.int .i64 j) (fun _ q => q) ?_
          refine s_run rfl ?_
          refine s_pure (.int .i64 (j - 1)) (fun _ q => ArithVC.mk (by omega) q) ?_
          refine s_run rfl ?_
          refine s_pure (.pointer (some ⟨sblk o, soff o + (((j - 1)).toNat) * 4, none⟩)) (fun _ q => s_o.row.idx (k := ((j - 1)).toNat) (by omega) hk28 q) ?_
          refine s_run rfl ?_
          refine s_pure (.pointer (some ⟨sblk o, soff o + (((j - 1)).toNat) * 4, none⟩)) (fun _ q => q) ?_
          refine s_run rfl ?_
          refine s_pure (.pointer (some ⟨b13, 0, none⟩)) (fun _ q => q) ?_
          refine s_run rfl ?_
          refine s_load (.int .i64 x29.message) (fun _ q => s_o.row.load hx29 (j := 0) rfl rfl q) ?_
          refine s_run rfl ?_
          refine s_load (.int .i64 x11.message) (fun _ q => bxb13.load rfl q) ?_
          refine s_run rfl ?_
          refine s_pure (.bool (x29.message == x11.message)) (fun _ q => q) ?_
          refine s_run rfl ?_
          refine s_pure (.bool (x29.message == x11.message)) (fun _ q => q) ?_
          refine s_splitT rfl (fun c32 => ?_) (fun c32 => ?_)
          ·
            refine s_run rfl ?_
            refine s_pure o (fun _ q => q) ?_
            refine s_run rfl ?_
            refine s_pure (.int .i64 j) (fun _ q => q) ?_
            refine s_run rfl ?_
            refine s_pure (.int .i64 (j - 1)) (fun _ q => ArithVC.mk (by omega) q) ?_
            refine s_run rfl ?_
            refine s_pure (.pointer (some ⟨sblk o, soff o + (((j - 1)).toNat) * 4, none⟩)) (fun _ q => s_o.row.idx (k := ((j - 1)).toNat) (by omega) hk28 q) ?_
            refine s_run rfl ?_
            refine s_pure (.pointer (some ⟨sblk o, soff o + (((j - 1)).toNat) * 4 + 1, none⟩)) (fun _ q => q) ?_
            refine s_run rfl ?_
            refine s_pure (.pointer (some ⟨b13, 1, none⟩)) (fun _ q => q) ?_
            refine s_run rfl ?_
            refine s_load (.int .i64 x29.part) (fun _ q => s_o.row.load hx29 (j := 1) rfl rfl q) ?_
            refine s_run rfl ?_
            refine s_load (.int .i64 x11.part) (fun _ q => bxb13.load rfl q) ?_
            refine s_run rfl ?_
            refine s_pure (.bool (decide (x29.part > x11.part))) (fun _ q => q) ?_
            refine s_run rfl ?_
            refine s_pure (.bool (decide (x29.part > x11.part))) (fun _ q => q) ?_
            refine s_run rfl ?_
            refine s_pure (.bool (decide (x29.part > x11.part))) (fun _ q => q) ?_
            refine s_pure (.bool (decide (x29.part > x11.part))) (fun _ q => q) ?_
            refine s_nil ?_
            refine p_seqN ?_
            refine v_cond rfl (fun c33 => ?_) (fun c33 => ?_)
            ·
              refine v_skip ?_
              refine p_seqN ?_
              refine v_block ?_
              refine v_ops ?_
              refine s_pure (.int .i64 j) (fun _ q => q) ?_
              refine s_pure (.int .i64 (j - 1)) (fun _ q => ArithVC.mk (by omega) q) ?_
              refine s_pure (.int .i64 (j - 1)) (fun _ q => q) ?_
              refine s_nil ?_
              refine p_blkN ?_
              exact p_lpN ⟨(j - 1), ⟨rfl, rfl, rfl, rfl, rfl, rfl⟩, ⟨Eh, bxb13, (s_o.mono (by omega)), (by refine ⟨by omega, by omega, fun i y hi hy => ?_⟩; (by_cases hij : j ≤ (i : Int)); exact hJ i y hij hy; (have hii : i = (j - 1).toNat := by omega); subst hii; (obtain rfl := Option.some.inj (hy.symm.trans (by assumption : ps[(j - 1).toNat]? = some x29))); (show _ < _ ∨ (_ = _ ∧ _ < _)); simp only; omega)⟩, by omega⟩
            ·
              refine v_exit ?_
              refine p_seqX ?_
              refine p_lpX ?_
              refine p_blkX ?_
              refine p_seqN ?_
              refine v_draw (DrawVC.hold ([b13]) ?_)
              refine d_pureT o (fun _ q => q) ?_
              refine d_pureT (.int .i64 j) (fun _ q => q) ?_
              obtain ⟨r34, hqr34, s_r34, bk_r34⟩ := s_o.row.toSl.slc (l := 0) (m := (j).toNat) (by first | omega | (simp; omega)) (by first | omega | (simp; omega))
              simp only [List.drop_zero, List.take_length] at s_r34
              have lt_r34 := s_r34.lt
              refine d_pureT r34 (fun K q => hqr34 _ rfl none (some (.int .i64 j)) rfl ⟨_, _, rfl, (by omega)⟩ K q) ?_
              refine d_pureT o (fun _ q => q) ?_
              refine d_pureT (.int .i64 j) (fun _ q => q) ?_
              obtain ⟨r35, hqr35, s_r35, bk_r35⟩ := s_o.row.toSl.slc (l := (j).toNat) (m := ps.length) (by first | omega | (simp; omega)) (by first | omega | (simp; omega))
              simp only [List.drop_zero, List.take_length] at s_r35
              have lt_r35 := s_r35.lt
              refine d_pureT r35 (fun K q => hqr35 _ rfl (some (.int .i64 j)) none ⟨_, _, rfl, (by omega)⟩ rfl K q) ?_
              refine d_loadT (.agg #[.int .i64 x11.message, .int .i64 x11.part, .int .i64 x11.parts, x11.sv.v]) (fun _ q => bxb13.takeA (by simp) rfl q) ?_
              refine d_eff ?_
              refine s_row (α := Pk) [] (fun _ q => seg_nil q) rfl (by simp [maxLen]) (fun r36 h37 eh37 zh37 s_r36 fr_r36 => ?_)
              have E38 := Eh.trans eh37
              have z39 := eh37.size
              have G40 := eh37
              have lt_r36 := s_r36.lt
              refine s_nil ⟨fun _ x hx => G40.blk x (by simp at hx; omega), ?_⟩
              refine d_eff ?_
              have f41 := (s_r34.ext eh37)
              refine s_app s_r36 f41 rfl rfl rfl (by simp [maxLen]; omega) (by simp; omega) (fun r42 h43 mh43 zh43 s_r42 ab_r42 => ?_)
              have E44 := E38.mod mh43 (fun b hb => by have := fr_r36 b hb; omega)
              have G45 := G40.mod mh43 (fun b hb => by have := fr_r36 b hb; omega)
              have fr_r42 := fr_r36.app ab_r42 (by omega)
              have lt_r42 := s_r42.lt
              refine s_nil ⟨fun _ x hx => G45.blk x (by simp at hx; omega), ?_⟩
              refine d_eff ?_
              have f46 := ((s26.ext eh37).mod mh43 (fun b hb hc => by have := (inlt_l x11 (List.mem_of_getElem? hx11)) b hb; have := fr_r36 b hc; omega))
              refine s_call [.agg #[.int .i64 x11.message, .int .i64 x11.part, .int .i64 x11.parts, x11.sv.v]] rfl (spec_pkOwn_ok (Pk.p x11) x11.sv.v _ f46 (by (have h3 := (by assumption : PksOk (l.map Pk.p)).2 _ (List.mem_map_of_mem (List.mem_of_getElem? (by assumption : l[k]? = some _)))); (have h4 := h3.2.2.2.1); simp only at h4 ⊢; omega)) ?_
              rintro _ h48 ⟨r47, rfl, s_r47, fr_r47, eh48⟩
              have E49 := E44.trans eh48
              have z50 := eh48.size
              have G51 := G45.trans eh48
              have lt_r47 := s_r47.lt
              refine s_nil ⟨fun hl => (by cases hl), ?_⟩
              refine d_eff ?_
              obtain ⟨sv52, rfl⟩ := s_r47.sv
              refine s_row (α := Pk) [(⟨(Pk.p x11).message, (Pk.p x11).part, (Pk.p x11).parts, sv52, (Pk.p x11).signals⟩ : Pk)] (fun _ q => seg_agg rfl rfl (seg_nil q)) rfl (by simp [maxLen]) (fun r53 h54 eh54 zh54 s_r53 fr_r53 => ?_)
              have E55 := E49.trans eh54
              have z56 := eh54.size
              have G57 := G51.trans eh54
              have lt_r53 := s_r53.lt
              refine s_nil ⟨fun hl => (by cases hl), ?_⟩
              refine d_eff ?_
              have f58 := ((s_r42.ext eh48).ext eh54)
              refine s_app f58 s_r53 rfl rfl rfl (by simp [maxLen]; omega) (by simp; omega) (fun r59 h60 mh60 zh60 s_r59 ab_r59 => ?_)
              have E61 := E55.mod mh60 (fun b hb => by have := fr_r42 b hb; omega)
              have fr_r59 := fr_r42.app ab_r59 (by omega)
              have np62 : ∀ b ∈ blks sv52.v, b ∉ blks r59 := fun b hb hc => (ab_r59 _ hc).elim (((fun b hb hc => by have := fr_r47 b hb; have := lt_r42 b hc; omega) : ∀ b ∈ blks sv52.v, b ∉ blks r42) b hb) (fun hc => by have := lt_r47 b hb; omega)
              have np63 : ∀ b ∈ blks r53, b ∉ blks r59 := fun b hb hc => (ab_r59 _ hc).elim (((fun b hb hc => by have := fr_r53 b hb; have := lt_r42 b hc; omega) : ∀ b ∈ blks r53, b ∉ blks r42) b hb) (fun hc => by have := lt_r53 b hb; omega)
              have lt_r59 := s_r59.lt
              refine s_nil ⟨fun hl => (by cases hl), ?_⟩
              refine d_eff ?_
              have f64 := (((((s_r35.ext eh37).mod mh43 (fun b hb hc => by have := (fun b hb => lt_o b (mem_fpts.2 (.inl (bk_r35 b hb)))) b hb; have := fr_r36 b hc; omega)).ext eh48).ext eh54).mod mh60 (fun b hb hc => by have := (fun b hb => lt_o b (mem_fpts.2 (.inl (bk_r35 b hb)))) b hb; have := fr_r42 b hc; omega))
              refine s_app s_r59 f64 rfl rfl rfl (by simp [maxLen]; omega) (by simp; omega) (fun r65 h66 mh66 zh66 s_r65 ab_r65 => ?_)
              have E67 := E61.mod mh66 (fun b hb => by have := fr_r59 b hb; omega)
              have fr_r65 := fr_r59.app ab_r65 (by omega)
              have np68 : ∀ b ∈ blks sv52.v, b ∉ blks r65 := fun b hb hc => (ab_r65 _ hc).elim ((np62 : ∀ b ∈ blks sv52.v, b ∉ blks r59) b hb) (fun hc => by have := lt_r47 b hb; omega)
              have np69 : ∀ b ∈ blks sv52.v, b ∉ blks r65 := fun b hb hc => (ab_r65 _ hc).elim ((np62 : ∀ b ∈ blks sv52.v, b ∉ blks r59) b hb) (fun hc => by have := lt_r47 b hb; omega)
              have np70 : ∀ b ∈ blks r53, b ∉ blks r65 := fun b hb hc => (ab_r65 _ hc).elim ((np63 : ∀ b ∈ blks r53, b ∉ blks r59) b hb) (fun hc => by have := lt_r53 b hb; omega)
              have np71 : ∀ b ∈ blks r53, b ∉ blks r65 := fun b hb hc => (ab_r65 _ hc).elim ((np63 : ∀ b ∈ blks r53, b ∉ blks r59) b hb) (fun hc => by have := lt_r53 b hb; omega)
              have lt_r65 := s_r65.lt
              have f72 := ((((((s_o.ext eh37).mod mh43 (fun b hb hc => by have := lt_o b hb; have := fr_r36 b hc; omega)).ext eh48).ext eh54).mod mh60 (fun b hb hc => by have := lt_o b hb; have := fr_r42 b hc; omega)).mod mh66 (fun b hb hc => by have := lt_o b hb; have := fr_r59 b hc; omega))
              have f73 := (((s_r47.ext eh54).mod mh60 (fun b hb hc => by have := fr_r47 b hb; have := lt_r42 b hc; omega)).mod mh66 np62)
              have D74 := DeepO.mid (k := ((j).toNat)) (e := (⟨(Pk.p x11).message, (Pk.p x11).part, (Pk.p x11).parts, sv52, (Pk.p x11).signals⟩ : Pk)) f72 f73 (fr_r47.mono (by omega)) (fun b hb hc => by have := fr_r47 b hb; have := lt_o b hc; omega) (sl_eq s_r65 (by simp)) (fr_r65.mono (by omega)) (fun b hb hc => by have := lt_o b hb; have := fr_r65 b hc; omega) np69
              have lt_r65d := D74.lt
              have fr_r65d := D74.fr
              refine s_nil ⟨fun hl => (by cases hl), ?_⟩
              refine d_pureT r65 (fun _ q => q) ?_
              refine d_done ?_
              refine p_blkN ?_
              refine p_seqN ?_
              refine v_ops ?_
              refine s_pure (.int .i64 ((k : Int) + 1)) (fun _ q => ArithVC.mk (by omega) q) ?_
              refine s_pure (.int .i64 ((k : Int) + 1)) (fun _ q => q) ?_
              refine s_nil ?_
              exact p_lpN ⟨k + 1, (ps.take ((j).toNat) ++ [(⟨(Pk.p x11).message, (Pk.p x11).part, (Pk.p x11).parts, sv52, (Pk.p x11).signals⟩ : Pk)] ++ ps.drop ((j).toNat)), r65, ⟨rfl, rfl, rfl, rfl⟩, ⟨E67, (D74.mono (by omega)), (by exact ⟨by omega, ins_step (e := (⟨(Pk.p x11).message, (Pk.p x11).part, (Pk.p x11).parts, sv52, (Pk.p x11).signals⟩ : Pk)) hps (by assumption : l[k]? = some x11) rfl hj0 hjl hJ (fun y hy hz => by first | omega | (have hzz := (by assumption : ps[(j - 1).toNat]? = some x29)); (obtain rfl := Option.some.inj (hz.symm.trans hzz)); (show ¬ (_ < _ ∨ (_ = _ ∧ _ < _))); simp only; omega)⟩)⟩, by omega⟩
          ·
            refine s_pass rfl ?_
            refine s_pass rfl ?_
            refine s_pass rfl ?_
            refine s_pass rfl ?_
            refine s_pass rfl ?_
            refine s_pass rfl ?_
            refine s_pass rfl ?_
            refine s_pass rfl ?_
            refine s_pass rfl ?_
            refine s_run rfl ?_
            refine s_pure (.bool false) (fun _ q => q) ?_
            refine s_run rfl ?_
            refine s_pure (.bool false) (fun _ q => q) ?_
            refine s_pure (.bool false) (fun _ q => q) ?_
            refine s_nil ?_
            refine p_seqN ?_
            refine v_condN rfl (by simp) ?_
            refine v_exit ?_
            refine p_seqX ?_
            refine p_lpX ?_
            refine p_blkX ?_
            refine p_seqN ?_
            refine v_draw (DrawVC.hold ([b13]) ?_)
            refine d_pureT o (fun _ q => q) ?_
            refine d_pureT (.int .i64 j) (fun _ q => q) ?_
            obtain ⟨r75, hqr75, s_r75, bk_r75⟩ := s_o.row.toSl.slc (l := 0) (m := (j).toNat) (by first | omega | (simp; omega)) (by first | omega | (simp; omega))
            simp only [List.drop_zero, List.take_length] at s_r75
            have lt_r75 := s_r75.lt
            refine d_pureT r75 (fun K q => hqr75 _ rfl none (some (.int .i64 j)) rfl ⟨_, _, rfl, (by omega)⟩ K q) ?_
            refine d_pureT o (fun _ q => q) ?_
            refine d_pureT (.int .i64 j) (fun _ q => q) ?_
            obtain ⟨r76, hqr76, s_r76, bk_r76⟩ := s_o.row.toSl.slc (l := (j).toNat) (m := ps.length) (by first | omega | (simp; omega)) (by first | omega | (simp; omega))
            simp only [List.drop_zero, List.take_length] at s_r76
            have lt_r76 := s_r76.lt
            refine d_pureT r76 (fun K q => hqr76 _ rfl (some (.int .i64 j)) none ⟨_, _, rfl, (by omega)⟩ rfl K q) ?_
            refine d_loadT (.agg #[.int .i64 x11.message, .int .i64 x11.part, .int .i64 x11.parts, x11.sv.v]) (fun _ q => bxb13.takeA (by simp) rfl q) ?_
            refine d_eff ?_
            refine s_row (α := Pk) [] (fun _ q => seg_nil q) rfl (by simp [maxLen]) (fun r77 h78 eh78 zh78 s_r77 fr_r77 => ?_)
            have E79 := Eh.trans eh78
            have z80 := eh78.size
            have G81 := eh78
            have lt_r77 := s_r77.lt
            refine s_nil ⟨fun _ x hx => G81.blk x (by simp at hx; omega), ?_⟩
            refine d_eff ?_
            have f82 := (s_r75.ext eh78)
            refine s_app s_r77 f82 rfl rfl rfl (by simp [maxLen]; omega) (by simp; omega) (fun r83 h84 mh84 zh84 s_r83 ab_r83 => ?_)
            have E85 := E79.mod mh84 (fun b hb => by have := fr_r77 b hb; omega)
            have G86 := G81.mod mh84 (fun b hb => by have := fr_r77 b hb; omega)
            have fr_r83 := fr_r77.app ab_r83 (by omega)
            have lt_r83 := s_r83.lt
            refine s_nil ⟨fun _ x hx => G86.blk x (by simp at hx; omega), ?_⟩
            refine d_eff ?_
            have f87 := ((s26.ext eh78).mod mh84 (fun b hb hc => by have := (inlt_l x11 (List.mem_of_getElem? hx11)) b hb; have := fr_r77 b hc; omega))
            refine s_call [.agg #[.int .i64 x11.message, .int .i64 x11.part, .int .i64 x11.parts, x11.sv.v]] rfl (spec_pkOwn_ok (Pk.p x11) x11.sv.v _ f87 (by (have h3 := (by assumption : PksOk (l.map Pk.p)).2 _ (List.mem_map_of_mem (List.mem_of_getElem? (by assumption : l[k]? = some _)))); (have h4 := h3.2.2.2.1); simp only at h4 ⊢; omega)) ?_
            rintro _ h89 ⟨r88, rfl, s_r88, fr_r88, eh89⟩
            have E90 := E85.trans eh89
            have z91 := eh89.size
            have G92 := G86.trans eh89
            have lt_r88 := s_r88.lt
            refine s_nil ⟨fun hl => (by cases hl), ?_⟩
            refine d_eff ?_
            obtain ⟨sv93, rfl⟩ := s_r88.sv
            refine s_row (α := Pk) [(⟨(Pk.p x11).message, (Pk.p x11).part, (Pk.p x11).parts, sv93, (Pk.p x11).signals⟩ : Pk)] (fun _ q => seg_agg rfl rfl (seg_nil q)) rfl (by simp [maxLen]) (fun r94 h95 eh95 zh95 s_r94 fr_r94 => ?_)
            have E96 := E90.trans eh95
            have z97 := eh95.size
            have G98 := G92.trans eh95
            have lt_r94 := s_r94.lt
            refine s_nil ⟨fun hl => (by cases hl), ?_⟩
            refine d_eff ?_
            have f99 := ((s_r83.ext eh89).ext eh95)
            refine s_app f99 s_r94 rfl rfl rfl (by simp [maxLen]; omega) (by simp; omega) (fun r100 h101 mh101 zh101 s_r100 ab_r100 => ?_)
            have E102 := E96.mod mh101 (fun b hb => by have := fr_r83 b hb; omega)
            have fr_r100 := fr_r83.app ab_r100 (by omega)
            have np103 : ∀ b ∈ blks sv93.v, b ∉ blks r100 := fun b hb hc => (ab_r100 _ hc).elim (((fun b hb hc => by have := fr_r88 b hb; have := lt_r83 b hc; omega) : ∀ b ∈ blks sv93.v, b ∉ blks r83) b hb) (fun hc => by have := lt_r88 b hb; omega)
            have np104 : ∀ b ∈ blks r94, b ∉ blks r100 := fun b hb hc => (ab_r100 _ hc).elim (((fun b hb hc => by have := fr_r94 b hb; have := lt_r83 b hc; omega) : ∀ b ∈ blks r94, b ∉ blks r83) b hb) (fun hc => by have := lt_r94 b hb; omega)
            have lt_r100 := s_r100.lt
            refine s_nil ⟨fun hl => (by cases hl), ?_⟩
            refine d_eff ?_
            have f105 := (((((s_r76.ext eh78).mod mh84 (fun b hb hc => by have := (fun b hb => lt_o b (mem_fpts.2 (.inl (bk_r76 b hb)))) b hb; have := fr_r77 b hc; omega)).ext eh89).ext eh95).mod mh101 (fun b hb hc => by have := (fun b hb => lt_o b (mem_fpts.2 (.inl (bk_r76 b hb)))) b hb; have := fr_r83 b hc; omega))
            refine s_app s_r100 f105 rfl rfl rfl (by simp [maxLen]; omega) (by simp; omega) (fun r106 h107 mh107 zh107 s_r106 ab_r106 => ?_)
            have E108 := E102.mod mh107 (fun b hb => by have := fr_r100 b hb; omega)
            have fr_r106 := fr_r100.app ab_r106 (by omega)
            have np109 : ∀ b ∈ blks sv93.v, b ∉ blks r106 := fun b hb hc => (ab_r106 _ hc).elim ((np103 : ∀ b ∈ blks sv93.v, b ∉ blks r100) b hb) (fun hc => by have := lt_r88 b hb; omega)
            have np110 : ∀ b ∈ blks sv93.v, b ∉ blks r106 := fun b hb hc => (ab_r106 _ hc).elim ((np103 : ∀ b ∈ blks sv93.v, b ∉ blks r100) b hb) (fun hc => by have := lt_r88 b hb; omega)
            have np111 : ∀ b ∈ blks r94, b ∉ blks r106 := fun b hb hc => (ab_r106 _ hc).elim ((np104 : ∀ b ∈ blks r94, b ∉ blks r100) b hb) (fun hc => by have := lt_r94 b hb; omega)
            have np112 : ∀ b ∈ blks r94, b ∉ blks r106 := fun b hb hc => (ab_r106 _ hc).elim ((np104 : ∀ b ∈ blks r94, b ∉ blks r100) b hb) (fun hc => by have := lt_r94 b hb; omega)
            have lt_r106 := s_r106.lt
            have f113 := ((((((s_o.ext eh78).mod mh84 (fun b hb hc => by have := lt_o b hb; have := fr_r77 b hc; omega)).ext eh89).ext eh95).mod mh101 (fun b hb hc => by have := lt_o b hb; have := fr_r83 b hc; omega)).mod mh107 (fun b hb hc => by have := lt_o b hb; have := fr_r100 b hc; omega))
            have f114 := (((s_r88.ext eh95).mod mh101 (fun b hb hc => by have := fr_r88 b hb; have := lt_r83 b hc; omega)).mod mh107 np103)
            have D115 := DeepO.mid (k := ((j).toNat)) (e := (⟨(Pk.p x11).message, (Pk.p x11).part, (Pk.p x11).parts, sv93, (Pk.p x11).signals⟩ : Pk)) f113 f114 (fr_r88.mono (by omega)) (fun b hb hc => by have := fr_r88 b hb; have := lt_o b hc; omega) (sl_eq s_r106 (by simp)) (fr_r106.mono (by omega)) (fun b hb hc => by have := lt_o b hb; have := fr_r106 b hc; omega) np110
            have lt_r106d := D115.lt
            have fr_r106d := D115.fr
            refine s_nil ⟨fun hl => (by cases hl), ?_⟩
            refine d_pureT r106 (fun _ q => q) ?_
            refine d_done ?_
            refine p_blkN ?_
            refine p_seqN ?_
            refine v_ops ?_
            refine s_pure (.int .i64 ((k : Int) + 1)) (fun _ q => ArithVC.mk (by omega) q) ?_
            refine s_pure (.int .i64 ((k : Int) + 1)) (fun _ q => q) ?_
            refine s_nil ?_
            exact p_lpN ⟨k + 1, (ps.take ((j).toNat) ++ [(⟨(Pk.p x11).message, (Pk.p x11).part, (Pk.p x11).parts, sv93, (Pk.p x11).signals⟩ : Pk)] ++ ps.drop ((j).toNat)), r106, ⟨rfl, rfl, rfl, rfl⟩, ⟨E108, (D115.mono (by omega)), (by exact ⟨by omega, ins_step (e := (⟨(Pk.p x11).message, (Pk.p x11).part, (Pk.p x11).parts, sv93, (Pk.p x11).signals⟩ : Pk)) hps (by assumption : l[k]? = some x11) rfl hj0 hjl hJ (fun y hy hz => by first | omega | (have hzz := (by assumption : ps[(j - 1).toNat]? = some x29)); (obtain rfl := Option.some.inj (hz.symm.trans hzz)); (show ¬ (_ < _ ∨ (_ = _ ∧ _ < _))); simp only; omega)⟩)⟩, by omega⟩
      ·
        refine s_pass rfl ?_
        refine s_pass rfl ?_
        refine s_pass rfl ?_
        refine s_pass rfl ?_
        refine s_pass rfl ?_
        refine s_pass rfl ?_
        refine s_pass rfl ?_
        refine s_pass rfl ?_
        refine s_pass rfl ?_
        refine s_pass rfl ?_
        refine s_splitU rfl ?_
        refine s_passU rfl ?_
        refine s_passU rfl ?_
        refine s_passU rfl ?_
        refine s_passU rfl ?_
        refine s_passU rfl ?_
        refine s_passU rfl ?_
        refine s_passU rfl ?_
        refine s_passU rfl ?_
        refine s_passU rfl ?_
        refine s_passU rfl ?_
        refine s_splitU rfl ?_
        refine s_passU rfl ?_
        refine s_passU rfl ?_
        refine s_passU rfl ?_
        refine s_passU rfl ?_
        refine s_passU rfl ?_
        refine s_passU rfl ?_
        refine s_passU rfl ?_
        refine s_passU rfl ?_
        refine s_passU rfl ?_
        refine s_passU rfl ?_
        refine s_pass rfl ?_
        refine s_pure (.bool false) (fun _ q => q) ?_
        refine s_nil ?_
        refine p_seqN ?_
        refine v_condN rfl (by simp) ?_
        refine v_exit ?_
        refine p_seqX ?_
        refine p_lpX ?_
        refine p_blkX ?_
        refine p_seqN ?_
        refine v_draw (DrawVC.hold ([b13]) ?_)
        refine d_pureT o (fun _ q => q) ?_
        refine d_pureT (.int .i64 j) (fun _ q => q) ?_
        obtain ⟨r116, hqr116, s_r116, bk_r116⟩ := s_o.row.toSl.slc (l := 0) (m := (j).toNat) (by first | omega | (simp; omega)) (by first | omega | (simp; omega))
        simp only [List.drop_zero, List.take_length] at s_r116
        have lt_r116 := s_r116.lt
        refine d_pureT r116 (fun K q => hqr116 _ rfl none (some (.int .i64 j)) rfl ⟨_, _, rfl, (by omega)⟩ K q) ?_
        refine d_pureT o (fun _ q => q) ?_
        refine d_pureT (.int .i64 j) (fun _ q => q) ?_
        obtain ⟨r117, hqr117, s_r117, bk_r117⟩ := s_o.row.toSl.slc (l := (j).toNat) (m := ps.length) (by first | omega | (simp; omega)) (by first | omega | (simp; omega))
        simp only [List.drop_zero, List.take_length] at s_r117
        have lt_r117 := s_r117.lt
        refine d_pureT r117 (fun K q => hqr117 _ rfl (some (.int .i64 j)) none ⟨_, _, rfl, (by omega)⟩ rfl K q) ?_
        refine d_loadT (.agg #[.int .i64 x11.message, .int .i64 x11.part, .int .i64 x11.parts, x11.sv.v]) (fun _ q => bxb13.takeA (by simp) rfl q) ?_
        refine d_eff ?_
        refine s_row (α := Pk) [] (fun _ q => seg_nil q) rfl (by simp [maxLen]) (fun r118 h119 eh119 zh119 s_r118 fr_r118 => ?_)
        have E120 := Eh.trans eh119
        have z121 := eh119.size
        have G122 := eh119
        have lt_r118 := s_r118.lt
        refine s_nil ⟨fun _ x hx => G122.blk x (by simp at hx; omega), ?_⟩
        refine d_eff ?_
        have f123 := (s_r116.ext eh119)
        refine s_app s_r118 f123 rfl rfl rfl (by simp [maxLen]; omega) (by simp; omega) (fun r124 h125 mh125 zh125 s_r124 ab_r124 => ?_)
        have E126 := E120.mod mh125 (fun b hb => by have := fr_r118 b hb; omega)
        have G127 := G122.mod mh125 (fun b hb => by have := fr_r118 b hb; omega)
        have fr_r124 := fr_r118.app ab_r124 (by omega)
        have lt_r124 := s_r124.lt
        refine s_nil ⟨fun _ x hx => G127.blk x (by simp at hx; omega), ?_⟩
        refine d_eff ?_
        have f128 := ((s26.ext eh119).mod mh125 (fun b hb hc => by have := (inlt_l x11 (List.mem_of_getElem? hx11)) b hb; have := fr_r118 b hc; omega))
        refine s_call [.agg #[.int .i64 x11.message, .int .i64 x11.part, .int .i64 x11.parts, x11.sv.v]] rfl (spec_pkOwn_ok (Pk.p x11) x11.sv.v _ f128 (by (have h3 := (by assumption : PksOk (l.map Pk.p)).2 _ (List.mem_map_of_mem (List.mem_of_getElem? (by assumption : l[k]? = some _)))); (have h4 := h3.2.2.2.1); simp only at h4 ⊢; omega)) ?_
        rintro _ h130 ⟨r129, rfl, s_r129, fr_r129, eh130⟩
        have E131 := E126.trans eh130
        have z132 := eh130.size
        have G133 := G127.trans eh130
        have lt_r129 := s_r129.lt
        refine s_nil ⟨fun hl => (by cases hl), ?_⟩
        refine d_eff ?_
        obtain ⟨sv134, rfl⟩ := s_r129.sv
        refine s_row (α := Pk) [(⟨(Pk.p x11).message, (Pk.p x11).part, (Pk.p x11).parts, sv134, (Pk.p x11).signals⟩ : Pk)] (fun _ q => seg_agg rfl rfl (seg_nil q)) rfl (by simp [maxLen]) (fun r135 h136 eh136 zh136 s_r135 fr_r135 => ?_)
        have E137 := E131.trans eh136
        have z138 := eh136.size
        have G139 := G133.trans eh136
        have lt_r135 := s_r135.lt
        refine s_nil ⟨fun hl => (by cases hl), ?_⟩
        refine d_eff ?_
        have f140 := ((s_r124.ext eh130).ext eh136)
        refine s_app f140 s_r135 rfl rfl rfl (by simp [maxLen]; omega) (by simp; omega) (fun r141 h142 mh142 zh142 s_r141 ab_r141 => ?_)
        have E143 := E137.mod mh142 (fun b hb => by have := fr_r124 b hb; omega)
        have fr_r141 := fr_r124.app ab_r141 (by omega)
        have np144 : ∀ b ∈ blks sv134.v, b ∉ blks r141 := fun b hb hc => (ab_r141 _ hc).elim (((fun b hb hc => by have := fr_r129 b hb; have := lt_r124 b hc; omega) : ∀ b ∈ blks sv134.v, b ∉ blks r124) b hb) (fun hc => by have := lt_r129 b hb; omega)
        have np145 : ∀ b ∈ blks r135, b ∉ blks r141 := fun b hb hc => (ab_r141 _ hc).elim (((fun b hb hc => by have := fr_r135 b hb; have := lt_r124 b hc; omega) : ∀ b ∈ blks r135, b ∉ blks r124) b hb) (fun hc => by have := lt_r135 b hb; omega)
        have lt_r141 := s_r141.lt
        refine s_nil ⟨fun hl => (by cases hl), ?_⟩
        refine d_eff ?_
        have f146 := (((((s_r117.ext eh119).mod mh125 (fun b hb hc => by have := (fun b hb => lt_o b (mem_fpts.2 (.inl (bk_r117 b hb)))) b hb; have := fr_r118 b hc; omega)).ext eh130).ext eh136).mod mh142 (fun b hb hc => by have := (fun b hb => lt_o b (mem_fpts.2 (.inl (bk_r117 b hb)))) b hb; have := fr_r124 b hc; omega))
        refine s_app s_r141 f146 rfl rfl rfl (by simp [maxLen]; omega) (by simp; omega) (fun r147 h148 mh148 zh148 s_r147 ab_r147 => ?_)
        have E149 := E143.mod mh148 (fun b hb => by have := fr_r141 b hb; omega)
        have fr_r147 := fr_r141.app ab_r147 (by omega)
        have np150 : ∀ b ∈ blks sv134.v, b ∉ blks r147 := fun b hb hc => (ab_r147 _ hc).elim ((np144 : ∀ b ∈ blks sv134.v, b ∉ blks r141) b hb) (fun hc => by have := lt_r129 b hb; omega)
        have np151 : ∀ b ∈ blks sv134.v, b ∉ blks r147 := fun b hb hc => (ab_r147 _ hc).elim ((np144 : ∀ b ∈ blks sv134.v, b ∉ blks r141) b hb) (fun hc => by have := lt_r129 b hb; omega)
        have np152 : ∀ b ∈ blks r135, b ∉ blks r147 := fun b hb hc => (ab_r147 _ hc).elim ((np145 : ∀ b ∈ blks r135, b ∉ blks r141) b hb) (fun hc => by have := lt_r135 b hb; omega)
        have np153 : ∀ b ∈ blks r135, b ∉ blks r147 := fun b hb hc => (ab_r147 _ hc).elim ((np145 : ∀ b ∈ blks r135, b ∉ blks r141) b hb) (fun hc => by have := lt_r135 b hb; omega)
        have lt_r147 := s_r147.lt
        have f154 := ((((((s_o.ext eh119).mod mh125 (fun b hb hc => by have := lt_o b hb; have := fr_r118 b hc; omega)).ext eh130).ext eh136).mod mh142 (fun b hb hc => by have := lt_o b hb; have := fr_r124 b hc; omega)).mod mh148 (fun b hb hc => by have := lt_o b hb; have := fr_r141 b hc; omega))
        have f155 := (((s_r129.ext eh136).mod mh142 (fun b hb hc => by have := fr_r129 b hb; have := lt_r124 b hc; omega)).mod mh148 np144)
        have D156 := DeepO.mid (k := ((j).toNat)) (e := (⟨(Pk.p x11).message, (Pk.p x11).part, (Pk.p x11).parts, sv134, (Pk.p x11).signals⟩ : Pk)) f154 f155 (fr_r129.mono (by omega)) (fun b hb hc => by have := fr_r129 b hb; have := lt_o b hc; omega) (sl_eq s_r147 (by simp)) (fr_r147.mono (by omega)) (fun b hb hc => by have := lt_o b hb; have := fr_r147 b hc; omega) np151
        have lt_r147d := D156.lt
        have fr_r147d := D156.fr
        refine s_nil ⟨fun hl => (by cases hl), ?_⟩
        refine d_pureT r147 (fun _ q => q) ?_
        refine d_done ?_
        refine p_blkN ?_
        refine p_seqN ?_
        refine v_ops ?_
        refine s_pure (.int .i64 ((k : Int) + 1)) (fun _ q => ArithVC.mk (by omega) q) ?_
        refine s_pure (.int .i64 ((k : Int) + 1)) (fun _ q => q) ?_
        refine s_nil ?_
        exact p_lpN ⟨k + 1, (ps.take ((j).toNat) ++ [(⟨(Pk.p x11).message, (Pk.p x11).part, (Pk.p x11).parts, sv134, (Pk.p x11).signals⟩ : Pk)] ++ ps.drop ((j).toNat)), r147, ⟨rfl, rfl, rfl, rfl⟩, ⟨E149, (D156.mono (by omega)), (by exact ⟨by omega, ins_step (e := (⟨(Pk.p x11).message, (Pk.p x11).part, (Pk.p x11).parts, sv134, (Pk.p x11).signals⟩ : Pk)) hps (by assumption : l[k]? = some x11) rfl hj0 hjl hJ (fun y hy hz => by first | omega | (have hzz := (by assumption : ps[(j - 1).toNat]? = some x11)); (obtain rfl := Option.some.inj (hz.symm.trans hzz)); (show ¬ (_ < _ ∨ (_ = _ ∧ _ < _))); simp only; omega)⟩)⟩, by omega⟩
    ·
      refine v_exit ?_
      refine p_seqX ?_
      refine p_lpX ?_
      refine p_blkX ?_
      refine p_seqN ?_
      refine v_seq ?_
      refine v_ops ?_
      refine s_pure o (fun _ q => q) ?_
      refine s_pure o (fun _ q => q) ?_
      refine s_pure (.bool true) (fun _ q => q) ?_
      refine s_nil ?_
      refine p_seqN ?_
      refine v_ret ?_
      refine p_ret [o, .bool true] (.tuple #[o, .bool true]) (fun _ q => q) rfl ?_
      have ho : srtOut (l.map Pk.p) = ((ps.map Pk.p), true) := by first | exact so_no (by assumption) | exact so_spec (by assumption) hps (by assumption)
      exact ⟨o, ps, by first | (rw [ho]; done) | rfl, (s_o.mono (by omega)), (congrArg (fun o => o.1) ho).symm, Eh⟩


theorem srt_mem {l : List PkP} : ∀ p ∈ srtL l, p ∈ l := by
  intro p hp
  have h : p ∈ clsP (ppKey p) (srtL l) := List.mem_filter.2 ⟨hp, by simp⟩
  rw [(srt_props l).2] at h
  exact (List.mem_filter.1 h).1
theorem so_sz (l : List PkP) : (srtOut l).1.length ≤ 40 ∧ szD (srtOut l).1 ≤ 440 := by
  unfold srtOut
  split
  · rename_i h
    have h1 : (srtL l).length ≤ 40 := by rw [srt_len]; exact h.1
    exact ⟨h1, Nat.le_trans (szD_le h1 fun p hp => by have := (h.2 p (srt_mem p hp)).2.2.2.1.2; omega) (by decide)⟩
  · exact ⟨by simp, by decide⟩

end Go.Proofs.Ytjmcijcdncgaiaa
