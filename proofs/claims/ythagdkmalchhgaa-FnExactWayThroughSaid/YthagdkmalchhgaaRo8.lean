/- Arrivals. Condition: none. Printed in part by a program. -/
import Derived.Test.YthagdkmalchhgaaRo7
namespace Go.Proofs.Ythagdkmalchhgaa
open Go.Vc
set_option linter.all false

theorem ends_arr (x : LinkD) (e : Nat) (he : e < 2) {K : Value → Prop} (q : K (.agg #[.int .i64 (end1 x e), .int .i64 (end2 x e)])) : ArrVC 2 2 (some 2) (.agg #[.int .i64 x.a, .int .i64 x.b, .int .i64 x.b, .int .i64 x.a]) (.int .i64 (e : Int)) K := by
  have : e = 0 ∨ e = 1 := by omega
  rcases this with rfl | rfl
  · exact ⟨_, _, 0, rfl, rfl, by decide, q⟩
  · exact ⟨_, _, 1, rfl, rfl, by decide, q⟩
theorem end_bd {m : Nat} {x : LinkD} (h : LinkOk m x) (e : Nat) : (0 ≤ end1 x e ∧ end1 x e < (m : Int)) ∧ 0 ≤ end2 x e ∧ end2 x e < (m : Int) := by
  unfold end1 end2; split <;> omega
def mBF (o : List Int) (g : Bool) : Nat := 2 * potO o + g.toNat
theorem BF.dec {n : NetP} {l : List FogD} {a t : Int} {out o : List Int} {g g' : Bool} {k : Nat} (h : BF n l a t out g' k (potO o)) (hg : g = true) : mBF out g' < mBF o g := by
  have := h.pot
  subst hg
  unfold mBF
  cases g' <;> simp at this ⊢ <;> omega
theorem half_neg {l : List FogD} {out : List Int} {k : Nat} {x : LinkD} {e : Nat} {u : Int} (h0 : 0 ≤ end1 x e) (hu : out[(end1 x e).toNat]? = some u) (hn : u < 0) : Half l out k x e := by
  intro h
  have := gI_get hu
  rw [show (((end1 x e).toNat : Nat) : Int) = end1 x e by omega] at this
  omega
theorem half_ok {n : NetP} {l : List FogD} {out : List Int} {k : Nat} {x : LinkD} {e : Nat} {u w : Int} (hx : n.links[k]? = some x) (h0 : 0 ≤ end1 x e) (h1 : 0 ≤ end2 x e) (hu : out[(end1 x e).toNat]? = some u) (hw : out[(end2 x e).toNat]? = some w) (hp : 0 ≤ w) (hb : w ≤ over l (k : Int) (lk n (k : Int)) u) : Half l out k x e := by
  intro h
  have g1 := gI_get hu
  have g2 := gI_get hw
  rw [show (((end1 x e).toNat : Nat) : Int) = end1 x e by omega] at g1
  rw [show (((end2 x e).toNat : Nat) : Int) = end2 x e by omega] at g2
  rw [g1, g2]
  rw [lk_get hx] at hb
  exact ⟨hp, hb⟩
theorem BFh.set2 {n : NetP} {l : List FogD} {a t : Int} {m : Nat} {out : List Int} {grown : Bool} {k p0 e : Nat} {x : LinkD} (hf : FogsOk m l) (hn : NetOk n) (ha : 0 ≤ a) (h : BFh n l a t out grown k p0 x e) (hx : n.links[k]? = some x)
    {u w : Int} (h0 : 0 ≤ end1 x e) (h1 : 0 ≤ end2 x e) (hu : out[(end1 x e).toNat]? = some u) (hu0 : 0 ≤ u) (hw : out[(end2 x e).toNat]? = some w) (hb : w < 0 ∨ over l (k : Int) (lk n (k : Int)) u < w) : BFh n l a t (out.set (end2 x e).toNat (over l (k : Int) (lk n (k : Int)) u)) true k p0 x (e + 1) := by
  rw [lk_get hx] at *
  exact BFh.set hf hn ha h hx (by omega) (by omega) hu hu0 hw hb
theorem fillM {N k : Nat} {o : List Int} (ho : o = List.replicate k (-1) ++ List.replicate (N - k) 0) (h : k < N) : o.set k (-1) = List.replicate (k + 1) (-1) ++ List.replicate (N - (k + 1)) 0 := by
  rw [ho, List.set_append_right _ _ (by simp), List.length_replicate, Nat.sub_self, show N - k = N - (k + 1) + 1 by omega, List.replicate_succ, List.set_cons_zero, List.replicate_succ']
  simp
theorem Bnd.at {n : NetP} (hn : NetOk n) {a t : Int} {l : List FogD} {out : List Int} (hT : Tms n l a t out) (h : Bnd out) {i : Nat} {v : Int} (hv : out[i]? = some v) : v ≤ 10900 := h.top hn hT.len v (List.mem_of_getElem? hv)
theorem st_wide {m q : Nat} {l : List FogD} (hf : FogsOk m l) {k t : Int} {x : LinkD} (ht : 0 ≤ t ∧ t ≤ 1000000) (h : LinkOk q x) : -9223372036854775808 ≤ stF l k t x.delay + x.delay ∧ stF l k t x.delay + x.delay ≤ 9223372036854775807 := by
  have h1 := stF_le hf k x.delay t
  have h2 := stF_ge l k x.delay t
  omega
theorem over_wide {m : Nat} {l : List FogD} (hf : FogsOk m l) (k : Int) {x : LinkD} (hd : 1 ≤ x.delay ∧ x.delay ≤ 60) {t : Int} (h0 : 0 ≤ t) (ht : t ≤ 1000000) : 0 ≤ over l k x t ∧ over l k x t ≤ 1000060 := by
  have := stF_le hf k x.delay t
  have := stF_ge l k x.delay t
  unfold over; omega

theorem impl_goOver_ok (n : NetP) (v_n_towers : Value) (v_n_links : Value) (v_l : Value) (l : List FogD) (link : Int) (t : Int) (h : Heap) (s_n_towers : Sl h v_n_towers n.towers) (s_n_links : Sl h v_n_links n.links) (s_l : Sl h v_l l) (m : Nat) (hn : NetOk n) (hf : FogsOk m l) (hk : 0 ≤ link ∧ link ≤ (n.links.length : Int) - 1) (ht : 0 ≤ t ∧ t ≤ 1000000) : Cn f_impl_goOver [.agg #[v_n_towers, v_n_links], v_l, .int .i64 link, .int .i64 t] h fun v h' => v = .int .i64 (over l link (lk n link) t) ∧ Ext h h' := by
  have lt_n_towers := s_n_towers.lt
  have l63_n_towers := s_n_towers.len63
  have lt_n_links := s_n_links.lt
  have l63_n_links := s_n_links.len63
  have lt_l := s_l.lt
  have l63_l := s_l.len63
  refine calls_of r_impl_goOver ?_
  refine v_seq ?_
  refine v_ops ?_
  refine s_box [v_n_towers, v_n_links] rfl (fun h2 b1 hbb1 hzb1 eh2 bxb1 => ?_)
  have E3 := (Ext.refl h).trans eh2
  have z4 := eh2.size
  have lbb1 := bxb1.lt
  refine s_pure (.int .i64 0) (fun _ q => q) ?_
  refine s_nil ?_
  refine p_seqN ?_
  refine v_seq ?_
  refine v_ops ?_
  refine s_pure (.pointer (some ⟨b1, 1, none⟩)) (fun _ q => q) ?_
  refine s_load v_n_links (fun _ q => bxb1.load rfl q) ?_
  refine s_pure (.int .i64 link) (fun _ q => q) ?_
  have f5 := (s_n_links.ext eh2)
  have hk6 : (link).toNat < n.links.length := (by first | omega | (simp; omega))
  obtain ⟨x7, hx7⟩ : ∃ x, n.links[(link).toNat]? = some x := ⟨_, List.getElem?_eq_getElem hk6⟩
  refine s_pure (.pointer (some ⟨sblk v_n_links, soff v_n_links + ((link).toNat) * 3, none⟩)) (fun _ q => f5.idx (k := (link).toNat) (by omega) hk6 q) ?_
  refine s_pure (.pointer (some ⟨sblk v_n_links, soff v_n_links + ((link).toNat) * 3 + 2, none⟩)) (fun _ q => q) ?_
  refine s_load (.int .i64 x7.delay) (fun _ q => f5.load hx7 (j := 2) rfl rfl q) ?_
  refine s_pure (.int .i64 x7.delay) (fun _ q => q) ?_
  refine s_nil ?_
  refine p_seqN ?_
  refine v_seq ?_
  refine v_ops ?_
  refine s_pure v_l (fun _ q => q) ?_
  refine s_pure (.int .i64 link) (fun _ q => q) ?_
  refine s_pure (.int .i64 t) (fun _ q => q) ?_
  refine s_pure (.int .i64 x7.delay) (fun _ q => q) ?_
  have f8 := (s_l.ext eh2)
  refine s_call [v_l, .int .i64 link, .int .i64 t, .int .i64 x7.delay] rfl (impl_startAfter_ok v_l l link t x7.delay _ f8 m hf (by omega) (by have := hn.at (by assumption : n.links[link.toNat]? = some _); omega)) ?_
  rintro _ h9 ⟨rfl, eh9⟩
  have E10 := E3.trans eh9
  have z11 := eh9.size
  refine s_pure (.int .i64 x7.delay) (fun _ q => q) ?_
  refine s_pure (.int .i64 ((stF l link t x7.delay) + x7.delay)) (fun _ q => ArithVC.mk (st_wide hf ht (hn.at (by assumption : n.links[link.toNat]? = some _))) q) ?_
  refine s_pure (.int .i64 ((stF l link t x7.delay) + x7.delay)) (fun _ q => q) ?_
  refine s_nil ?_
  refine p_seqN ?_
  refine v_ret ?_
  refine p_ret [.int .i64 ((stF l link t x7.delay) + x7.delay)] (.int .i64 ((stF l link t x7.delay) + x7.delay)) (fun _ q => q) rfl ?_
  have ho : (over l link (lk n link) t) = ((stF l link t x7.delay) + x7.delay) := by rw [over, Option.some.inj ((lk_at hk.1 hk.2).symm.trans (by assumption : n.links[link.toNat]? = some _))]
  exact ⟨by first | (rw [ho]; done) | rfl, E10⟩

theorem spec_roOver_ok (n : NetP) (v_n_towers : Value) (v_n_links : Value) (v_l : Value) (l : List FogD) (link : Int) (t : Int) (h : Heap) (s_n_towers : Sl h v_n_towers n.towers) (s_n_links : Sl h v_n_links n.links) (s_l : Sl h v_l l) (m : Nat) (hn : NetOk n) (hf : FogsOk m l) (hk : 0 ≤ link ∧ link ≤ (n.links.length : Int) - 1) (ht : 0 ≤ t ∧ t ≤ 1000000) : Cn f_spec_roOver [.agg #[v_n_towers, v_n_links], v_l, .int .i64 link, .int .i64 t] h fun v h' => v = .int .i64 (over l link (lk n link) t) ∧ Ext h h' := by
  have lt_n_towers := s_n_towers.lt
  have l63_n_towers := s_n_towers.len63
  have lt_n_links := s_n_links.lt
  have l63_n_links := s_n_links.len63
  have lt_l := s_l.lt
  have l63_l := s_l.len63
  refine calls_of r_spec_roOver ?_
  refine v_seq ?_
  refine v_ops ?_
  refine s_box [v_n_towers, v_n_links] rfl (fun h2 b1 hbb1 hzb1 eh2 bxb1 => ?_)
  have E3 := (Ext.refl h).trans eh2
  have z4 := eh2.size
  have lbb1 := bxb1.lt
  refine s_pure (.int .i64 0) (fun _ q => q) ?_
  refine s_nil ?_
  refine p_seqN ?_
  refine v_seq ?_
  refine v_ops ?_
  refine s_pure (.pointer (some ⟨b1, 1, none⟩)) (fun _ q => q) ?_
  refine s_load v_n_links (fun _ q => bxb1.load rfl q) ?_
  refine s_pure (.int .i64 link) (fun _ q => q) ?_
  have f5 := (s_n_links.ext eh2)
  have hk6 : (link).toNat < n.links.length := (by first | omega | (simp; omega))
  obtain ⟨x7, hx7⟩ : ∃ x, n.links[(link).toNat]? = some x := ⟨_, List.getElem?_eq_getElem hk6⟩
  refine s_pure (.pointer (some ⟨sblk v_n_links, soff v_n_links + ((link).toNat) * 3, none⟩)) (fun _ q => f5.idx (k := (link).toNat) (by omega) hk6 q) ?_
  refine s_pure (.pointer (some ⟨sblk v_n_links, soff v_n_links + ((link).toNat) * 3 + 2, none⟩)) (fun _ q => q) ?_
  refine s_load (.int .i64 x7.delay) (fun _ q => f5.load hx7 (j := 2) rfl rfl q) ?_
  refine s_pure (.int .i64 x7.delay) (fun _ q => q) ?_
  refine s_nil ?_
  refine p_seqN ?_
  refine v_seq ?_
  refine v_ops ?_
  refine s_pure v_l (fun _ q => q) ?_
  refine s_pure (.int .i64 link) (fun _ q => q) ?_
  refine s_pure (.int .i64 t) (fun _ q => q) ?_
  refine s_pure (.int .i64 x7.delay) (fun _ q => q) ?_
  have f8 := (s_l.ext eh2)
  refine s_call [v_l, .int .i64 link, .int .i64 t, .int .i64 x7.delay] rfl (spec_fgStart_ok v_l l link t x7.delay _ f8 m hf (by omega) (by have := hn.at (by assumption : n.links[link.toNat]? = some _); omega)) ?_
  rintro _ h9 ⟨rfl, eh9⟩
  have E10 := E3.trans eh9
  have z11 := eh9.size
  refine s_pure (.int .i64 x7.delay) (fun _ q => q) ?_
  refine s_pure (.int .i64 ((stF l link t x7.delay) + x7.delay)) (fun _ q => ArithVC.mk (st_wide hf ht (hn.at (by assumption : n.links[link.toNat]? = some _))) q) ?_
  refine s_pure (.int .i64 ((stF l link t x7.delay) + x7.delay)) (fun _ q => q) ?_
  refine s_nil ?_
  refine p_seqN ?_
  refine v_ret ?_
  refine p_ret [.int .i64 ((stF l link t x7.delay) + x7.delay)] (.int .i64 ((stF l link t x7.delay) + x7.delay)) (fun _ q => q) rfl ?_
  have ho : (over l link (lk n link) t) = ((stF l link t x7.delay) + x7.delay) := by rw [over, Option.some.inj ((lk_at hk.1 hk.2).symm.trans (by assumption : n.links[link.toNat]? = some _))]
  exact ⟨by first | (rw [ho]; done) | rfl, E10⟩


theorem fillAll {N k : Nat} {o : List Int} (ho : o = List.replicate k (-1) ++ List.replicate (N - k) 0) (h1 : k ≤ N) (h2 : N ≤ k) : o = List.replicate N (-1) := by
  obtain rfl : k = N := by omega
  rw [ho]; simp
theorem Least.take2 {out : List Int} {done : List Bool} {k : Nat} {i v : Int} {b : Bool} (h : Least out done k i) (hd : done[k]? = some b) (hb : ¬ b = true) (hv : out[k]? = some v) (h0 : v ≥ 0) (hl : i < 0 ∨ ∃ u, out[i.toNat]? = some u ∧ v < u) : Least out done (k + 1) (k : Int) := by
  have hb' : b = false := by simpa using hb
  subst hb'
  have g1 := gI_get hv
  refine h.take hd (by omega) ?_
  by_cases hi : i < 0
  · exact .inl hi
  · rcases hl with hl | ⟨u, hu, hlt⟩
    · exact absurd hl hi
    · have g2 := gI_get hu
      rw [show ((i.toNat : Nat) : Int) = i by omega] at g2
      right; omega
theorem Least.keepD {out : List Int} {done : List Bool} {k : Nat} {i : Int} {b : Bool} (h : Least out done k i) (hd : done[k]? = some b) (hb : b = true) : Least out done (k + 1) i := h.keep (.inl (hb ▸ hd))
theorem Least.keepN {out : List Int} {done : List Bool} {k : Nat} {i v : Int} (h : Least out done k i) (hv : out[k]? = some v) (hn : ¬ v ≥ 0) : Least out done (k + 1) i := h.keep (.inr (.inl (by have := gI_get hv; omega)))
theorem Least.keepL {out : List Int} {done : List Bool} {k : Nat} {i v u : Int} (h : Least out done k i) (hv : out[k]? = some v) (hi : ¬ i < 0) (hu : out[i.toNat]? = some u) (hl : ¬ v < u) : Least out done (k + 1) i := by
  have g1 := gI_get hv
  have g2 := gI_get hu
  rw [show ((i.toNat : Nat) : Int) = i by omega] at g2
  exact h.keep (.inr (.inr (by omega)))
theorem Dij.pick2 {n : NetP} {l : List FogD} {a t i : Int} {out : List Int} {done : List Bool} (h : Dij n l a t out done) {k : Nat} (hk : n.towers.length ≤ k) (hl : Least out done k i) (hi : 0 ≤ i) : ∃ u, DijR n l a t out (done.set i.toNat true) i.toNat u 0 := by
  have e : ((i.toNat : Nat) : Int) = i := by omega
  have hy := hl.yes hi
  have hd := h.tms.len
  have hdl := h.len
  have hlt := (List.getElem?_eq_some_iff.1 hy.2.1).1
  exact ⟨_, h.pick hk (i := i.toNat) (by rw [e]; exact hl) (List.getElem?_eq_getElem (by omega))⟩
theorem DijR.skip2 {n : NetP} {l : List FogD} {a t i : Int} {out : List Int} {done : List Bool} {u : Int} {m : Nat} {x : LinkD} (hn : NetOk n) (h : DijR n l a t out done i.toNat u m) (hi : 0 ≤ i) (hx : n.links[m]? = some x) (ho : othr x i < 0) : DijR n l a t out done i.toNat u (m + 1) :=
  h.skip hn hx (by rw [show ((i.toNat : Nat) : Int) = i by omega]; exact ho)
theorem DijR.keep2 {n : NetP} {l : List FogD} {a t i : Int} {out : List Int} {done : List Bool} {u v w : Int} {m : Nat} {x : LinkD} (hn : NetOk n) (h : DijR n l a t out done i.toNat u m) (hi : 0 ≤ i) (hx : n.links[m]? = some x) (ho : ¬ othr x i < 0) (hv : out[i.toNat]? = some v) (hw : out[(othr x i).toNat]? = some w) (h0 : ¬ w < 0) (hb : ¬ over l (m : Int) (lk n (m : Int)) v < w) : DijR n l a t out done i.toNat u (m + 1) := by
  obtain rfl := Option.some.inj (h.at_.symm.trans hv)
  rw [lk_get hx] at hb
  exact h.keep hn hx (j := (othr x i).toNat) (by rw [show ((i.toNat : Nat) : Int) = i by omega]; omega) hw (by omega) (by omega)
theorem DijR.set2 {n : NetP} {l : List FogD} {a t i : Int} {q : Nat} {out : List Int} {done : List Bool} {u v w : Int} {m : Nat} {x : LinkD} (hf : FogsOk q l) (hn : NetOk n) (ha : 0 ≤ a) (h : DijR n l a t out done i.toNat u m) (hi : 0 ≤ i) (hx : n.links[m]? = some x) (ho : ¬ othr x i < 0) (hv : out[i.toNat]? = some v) (hw : out[(othr x i).toNat]? = some w) (hb : w < 0 ∨ over l (m : Int) (lk n (m : Int)) v < w) : DijR n l a t (out.set (othr x i).toNat (over l (m : Int) (lk n (m : Int)) v)) done i.toNat u (m + 1) := by
  obtain rfl := Option.some.inj (h.at_.symm.trans hv)
  rw [lk_get hx] at hb ⊢
  exact h.set hf hn ha hx (j := (othr x i).toNat) (by rw [show ((i.toNat : Nat) : Int) = i by omega]; omega) hw (by omega)
theorem DijR.val {n : NetP} {l : List FogD} {a t : Int} {i : Nat} {out : List Int} {done : List Bool} {u v : Int} {m : Nat} (hn : NetOk n) (h : DijR n l a t out done i u m) (hv : out[i]? = some v) : 0 ≤ v ∧ v ≤ 1000000 := by
  obtain rfl := Option.some.inj (h.at_.symm.trans hv)
  have := h.bnd.at hn h.tms hv
  exact ⟨h.pos, by omega⟩
theorem BF.done_all {n : NetP} {l : List FogD} {a t : Int} {out : List Int} {g : Bool} {k p0 : Nat} (h : BF n l a t out g k p0) (hg : g = false) (hk : n.links.length ≤ k) : DoneTo n l out n.links.length := fun j x hj hx => h.done hg j x (by omega) hx

set_option maxRecDepth 10000 in
set_option maxHeartbeats 4000000 in
theorem impl_arrivals_ok (n : NetP) (v_n_towers : Value) (v_n_links : Value) (v_l : Value) (l : List FogD) (a : Int) (t : Int) (h : Heap) (s_n_towers : Sl h v_n_towers n.towers) (s_n_links : Sl h v_n_links n.links) (s_l : Sl h v_l l) (m : Nat) (hn : NetOk n) (hf : FogsOk m l) (ha : 0 ≤ a ∧ a ≤ (n.towers.length : Int) - 1) (ht : 0 ≤ t ∧ t ≤ 10000) : Cn f_impl_arrivals [.agg #[v_n_towers, v_n_links], v_l, .int .i64 a, .int .i64 t] h fun v h' => ∃ r0 : Value, v = r0 ∧ SlO h' r0 (arrOf n l a t) ∧ Fr h.size r0 ∧ Ext h h' := by
  have lt_n_towers := s_n_towers.lt
  have l63_n_towers := s_n_towers.len63
  have lt_n_links := s_n_links.lt
  have l63_n_links := s_n_links.len63
  have lt_l := s_l.lt
  have l63_l := s_l.len63
  have hst := arr_start (l := l) ha ht
  have ht2 := hn.t2
  refine calls_of r_impl_arrivals ?_
  refine v_seq ?_
  refine v_ops ?_
  refine s_box [v_n_towers, v_n_links] rfl (fun h2 b1 hbb1 hzb1 eh2 bxb1 => ?_)
  have E3 := (Ext.refl h).trans eh2
  have z4 := eh2.size
  have lbb1 := bxb1.lt
  refine s_pure (.slice none 0 0) (fun _ q => q) ?_
  refine s_nil ?_
  refine p_seqN ?_
  refine v_seq ?_
  refine v_ops ?_
  refine s_pure (.pointer (some ⟨b1, 0, none⟩)) (fun _ q => q) ?_
  refine s_load v_n_towers (fun _ q => bxb1.load rfl q) ?_
  refine s_pure (.int .i64 (n.towers.length : Int)) (fun _ q => s_n_towers.lenVC q) ?_
  refine s_mk (α := Int) n.towers.length 0 rfl rfl rfl rfl rfl rfl (by simp [maxLen]; omega) (by omega) (fun r5 h6 eh6 zh6 s_r5 fr_r5 => ?_)
  have E7 := E3.trans eh6
  have z8 := eh6.size
  have lt_r5 := s_r5.lt
  refine s_pure r5 (fun _ q => q) ?_
  refine s_nil ?_
  refine p_seqN ?_
  refine v_seq ?_
  refine v_seq ?_
  refine v_ops ?_
  refine s_pure r5 (fun _ q => q) ?_
  refine s_pure (.int .i64 ((List.replicate n.towers.length 0).length : Int)) (fun _ q => s_r5.lenVC q) ?_
  refine s_pure (.int .i64 0) (fun _ q => q) ?_
  refine s_nil ?_
  refine p_seqN ?_
  refine v_block ?_
  have f10 := (bxb1.ext eh6)
  refine v_loop3 (α := Nat) (β := List Int) (γ := Value) (fun k o w => [(1, v_l), (2, .int .i64 a), (3, .int .i64 t), (4, .pointer (some ⟨b1, 0, none⟩)), (9, w), (24, .int .i64 ((List.replicate n.towers.length 0).length : Int)), (25, .int .i64 (k : Int))]) (fun k o w hh => Ext h hh ∧ Bx hh b1 [v_n_towers, v_n_links] 32 ∧ SlO hh w o ∧ Fr h.size w ∧ b1 ∉ blks w ∧ k ≤ n.towers.length ∧ o = List.replicate k (-1) ++ List.replicate (n.towers.length - k) 0) (fun k o w => n.towers.length - k) 0 (List.replicate n.towers.length 0) r5 ⟨rfl, rfl, rfl, rfl, rfl, rfl, rfl⟩ ⟨E7, f10, (sl_eq s_r5 (by simp)), (fr_r5.mono (by omega)), (fun hc => by have := fr_r5 _ hc; omega), (by simp)⟩ ?_
  rintro k o w R11 h9 ⟨Eh, bxb1, s_w, fr_w, np_b1_w, ⟨hk, ho⟩⟩
  have zEh := Eh.size
  have f12 := s_n_towers.ext Eh
  have f13 := s_n_links.ext Eh
  have f14 := s_l.ext Eh
  have lbb1 := bxb1.lt
  have lt_w := s_w.lt
  have hl : o.length = n.towers.length := by rw [ho]; simp; omega
  have hr : (List.replicate n.towers.length (0 : Int)).length = n.towers.length := by simp
  refine v_seq ?_
  refine v_ops ?_
  refine s_pure (.bool (decide ((k : Int) < ((List.replicate n.towers.length 0).length : Int)))) (fun _ q => q) ?_
  refine s_nil ?_
  refine p_seqN ?_
  refine v_seq ?_
  refine v_cond rfl (fun c15 => ?_) (fun c15 => ?_)
  ·
    refine v_skip ?_
    refine p_seqN ?_
    refine v_seq ?_
    refine v_block ?_
    refine v_seq ?_
    refine v_ops ?_
    refine s_pure (.int .i64 (k : Int)) (fun _ q => q) ?_
    refine s_pure (.int .i64 (k : Int)) (fun _ q => q) ?_
    refine s_nil ?_
    refine p_seqN ?_
    refine v_ops ?_
    refine s_pure w (fun _ q => q) ?_
    refine s_pure (.int .i64 (k : Int)) (fun _ q => q) ?_
    have hk16 : k < o.length := (by first | omega | (simp; omega))
    obtain ⟨x17, hx17⟩ : ∃ x, o[k]? = some x := ⟨_, List.getElem?_eq_getElem hk16⟩
    refine s_pure (.pointer (some ⟨sblk w, soff w + k * 1, none⟩)) (fun _ q => s_w.idx (k := k) rfl hk16 q) ?_
    refine s_stSl (k := k) (j := 0) (-1) (.int .i64 (-1)) [.int .i64 (-1)] s_w rfl rfl rfl rfl rfl hx17 (Nat.le_of_ble_eq_true rfl) rfl (all_cons rfl all_nil) (fun h18 mh18 sh18 s19 => ?_)
    have E20 := Eh.mod mh18 (fun b hb => by have := fr_w b hb; omega)
    refine s_nil ?_
    refine p_blkN ?_
    refine p_seqN ?_
    refine v_ops ?_
    refine s_pure (.int .i64 ((k : Int) + 1)) (fun _ q => ArithVC.mk (by omega) q) ?_
    refine s_pure (.int .i64 ((k : Int) + 1)) (fun _ q => q) ?_
    refine s_nil ?_
    have f21 := (bxb1.mod mh18 np_b1_w)
    exact p_lpN ⟨k + 1, (o.set k (-1)), w, ⟨rfl, rfl, rfl, rfl, rfl, rfl, rfl⟩, ⟨E20, f21, (sl_eq s19 (by simp)), (fr_w.mono (by omega)), np_b1_w, (by exact ⟨by omega, fillM ho (by omega)⟩)⟩, by omega⟩
  ·
    refine v_exit ?_
    refine p_seqX ?_
    refine p_lpX ?_
    refine p_blkX ?_
    refine p_seqN ?_
    refine v_seq ?_
    refine v_ops ?_
    refine s_pure w (fun _ q => q) ?_
    refine s_pure (.int .i64 a) (fun _ q => q) ?_
    refine s_pure (.int .i64 t) (fun _ q => q) ?_
    have hk22 : (a).toNat < o.length := (by first | omega | (simp; omega))
    obtain ⟨x23, hx23⟩ : ∃ x, o[(a).toNat]? = some x := ⟨_, List.getElem?_eq_getElem hk22⟩
    refine s_pure (.pointer (some ⟨sblk w, soff w + ((a).toNat) * 1, none⟩)) (fun _ q => s_w.idx (k := (a).toNat) (by omega) hk22 q) ?_
    refine s_stSl (k := (a).toNat) (j := 0) t (.int .i64 t) [.int .i64 t] s_w rfl rfl rfl rfl rfl hx23 (Nat.le_of_ble_eq_true rfl) rfl (all_cons rfl all_nil) (fun h24 mh24 sh24 s25 => ?_)
    have E26 := Eh.mod mh24 (fun b hb => by have := fr_w b hb; omega)
    refine s_nil ?_
    refine p_seqN ?_
    refine v_seq ?_
    refine v_seq ?_
    refine v_ops ?_
    refine s_pure (.bool true) (fun _ q => q) ?_
    refine s_nil ?_
    refine p_seqN ?_
    refine v_block ?_
    have f28 := (bxb1.mod mh24 np_b1_w)
    refine v_loop3 (α := List Int) (β := Bool) (γ := Value) (fun o g w => [(1, v_l), (4, .pointer (some ⟨b1, 0, none⟩)), (9, w), (11, .bool g)]) (fun o g w hh => Ext h hh ∧ Bx hh b1 [v_n_towers, v_n_links] 32 ∧ SlO hh w o ∧ Fr h.size w ∧ b1 ∉ blks w ∧ Tms n l a t o ∧ Bnd o ∧ (g = false → DoneTo n l o n.links.length)) (fun o g w => mBF o g) (o.set ((a).toNat) t) true w ⟨rfl, rfl, rfl, rfl⟩ ⟨E26, f28, (sl_eq s25 (by simp)), (fr_w.mono (by omega)), np_b1_w, (by rw [fillAll ho (by omega) (by omega)]; exact ⟨hst.1, hst.2, fun q => by cases q⟩)⟩ ?_
    rintro o g w R29 h27 ⟨Eh, bxb1, s_w, fr_w, np_b1_w, ⟨hT, hB, hD⟩⟩
    have zEh := Eh.size
    have f30 := s_n_towers.ext Eh
    have f31 := s_n_links.ext Eh
    have f32 := s_l.ext Eh
    have lbb1 := bxb1.lt
    have lt_w := s_w.lt
    refine v_seq ?_
    refine v_seq ?_
    refine v_ops ?_
    refine s_pure (.bool g) (fun _ q => q) ?_
    refine s_nil ?_
    refine p_seqN ?_
    refine v_cond rfl (fun c33 => ?_) (fun c33 => ?_)
    ·
      refine v_skip ?_
      refine p_seqN ?_
      refine v_block ?_
      refine v_seq ?_
      refine v_ops ?_
      refine s_pure (.bool false) (fun _ q => q) ?_
      refine s_nil ?_
      refine p_seqN ?_
      refine v_seq ?_
      refine v_ops ?_
      refine s_pure (.pointer (some ⟨b1, 1, none⟩)) (fun _ q => q) ?_
      refine s_load v_n_links (fun _ q => bxb1.load rfl q) ?_
      refine s_pure (.int .i64 (n.links.length : Int)) (fun _ q => f31.lenVC q) ?_
      refine s_pure (.int .i64 0) (fun _ q => q) ?_
      refine s_nil ?_
      refine p_seqN ?_
      refine v_block ?_
      refine v_loop4 (α := Nat) (β := List Int) (γ := Bool) (δ := Value) (fun k o1 g1 w1 => [(1, v_l), (4, .pointer (some ⟨b1, 0, none⟩)), (9, w1), (11, .bool g1), (38, v_n_links), (39, .int .i64 (n.links.length : Int)), (40, .int .i64 (k : Int))]) (fun k o1 g1 w1 hh => Ext h hh ∧ Bx hh b1 [v_n_towers, v_n_links] 32 ∧ SlO hh w1 o1 ∧ Fr h.size w1 ∧ b1 ∉ blks w1 ∧ k ≤ n.links.length ∧ BF n l a t o1 g1 k (potO o)) (fun k o1 g1 w1 => n.links.length - k) 0 o false w ⟨rfl, rfl, rfl, rfl, rfl, rfl, rfl⟩ ⟨Eh, bxb1, (sl_eq s_w (by simp)), (fr_w.mono (by omega)), np_b1_w, (by exact ⟨by omega, ⟨hT, hB, fun _ => (fun k x hk => by omega), by simp⟩⟩)⟩ ?_
      rintro k o1 g1 w1 R35 h34 ⟨Eh, bxb1, s_w1, fr_w1, np_b1_w1, ⟨hk, hbf⟩⟩
      have zEh := Eh.size
      have f36 := s_n_towers.ext Eh
      have f37 := s_n_links.ext Eh
      have f38 := s_l.ext Eh
      have lbb1 := bxb1.lt
      have lt_w1 := s_w1.lt
      refine v_seq ?_
      refine v_ops ?_
      refine s_pure (.bool (decide ((k : Int) < (n.links.length : Int)))) (fun _ q => q) ?_
      refine s_nil ?_
      refine p_seqN ?_
      refine v_seq ?_
      refine v_cond rfl (fun c39 => ?_) (fun c39 => ?_)
      ·
        refine v_skip ?_
        refine p_seqN ?_
        refine v_seq ?_
        refine v_block ?_
        refine v_seq ?_
        refine v_ops ?_
        refine s_pure (.int .i64 (k : Int)) (fun _ q => q) ?_
        have hk40 : k < n.links.length := (by first | omega | (simp; omega))
        obtain ⟨x41, hx41⟩ : ∃ x, n.links[k]? = some x := ⟨_, List.getElem?_eq_getElem hk40⟩
        refine s_pure (.pointer (some ⟨sblk v_n_links, soff v_n_links + k * 3, none⟩)) (fun _ q => f37.idx (k := k) rfl hk40 q) ?_
        refine s_load (.agg #[.int .i64 x41.a, .int .i64 x41.b, .int .i64 x41.delay]) (fun _ q => f37.loadN hx41 rfl q) ?_
        refine s_new (fun h43 b42 hbb42 hzb42 eh43 bxb42 => ?_)
        have E44 := Eh.trans eh43
        have z45 := eh43.size
        have lbb42 := bxb42.lt
        refine s_pure (.int .i64 (k : Int)) (fun _ q => q) ?_
        refine s_stBx (.agg #[.int .i64 x41.a, .int .i64 x41.b, .int .i64 x41.delay]) [.int .i64 x41.a, .int .i64 x41.b, .int .i64 x41.delay] [.int .i64 x41.a, .int .i64 x41.b, .int .i64 x41.delay] bxb42 rfl rfl rfl rfl (by simp) (all_cons rfl (all_cons rfl (all_cons rfl all_nil))) rfl (fun h46 mh46 sh46 bxx47 => ?_)
        have E48 := E44.mod mh46 (fun b hb => by simp at hb; omega)
        refine s_nil ?_
        refine p_seqN ?_
        refine v_seq ?_
        refine v_ops ?_
        refine s_pure (.pointer (some ⟨b42, 0, none⟩)) (fun _ q => q) ?_
        refine s_load (.int .i64 x41.a) (fun _ q => bxx47.load rfl q) ?_
        refine s_pure (.pointer (some ⟨b42, 1, none⟩)) (fun _ q => q) ?_
        refine s_load (.int .i64 x41.b) (fun _ q => bxx47.load rfl q) ?_
        refine s_pure (.agg #[.int .i64 x41.a, .int .i64 x41.b]) (fun _ q => w_build (seg_i rfl (seg_i rfl (seg_nil q)))) ?_
        refine s_pure (.pointer (some ⟨b42, 1, none⟩)) (fun _ q => q) ?_
        refine s_load (.int .i64 x41.b) (fun _ q => bxx47.load rfl q) ?_
        refine s_pure (.pointer (some ⟨b42, 0, none⟩)) (fun _ q => q) ?_
        refine s_load (.int .i64 x41.a) (fun _ q => bxx47.load rfl q) ?_
        refine s_pure (.agg #[.int .i64 x41.b, .int .i64 x41.a]) (fun _ q => w_build (seg_i rfl (seg_i rfl (seg_nil q)))) ?_
        refine s_pure (.agg #[.int .i64 x41.a, .int .i64 x41.b, .int .i64 x41.b, .int .i64 x41.a]) (fun _ q => w_build (seg_agg rfl rfl (seg_agg rfl rfl (seg_nil q)))) ?_
        refine s_pure (.int .i64 0) (fun _ q => q) ?_
        refine s_nil ?_
        refine p_seqN ?_
        refine v_block ?_
        have f50 := ((bxb1.ext eh43).mod mh46 (by simp; omega))
        have f51 := ((s_w1.ext eh43).mod mh46 (fun b hb hc => by simp at hc; have := lt_w1 b hb; omega))
        refine v_loop4 (α := Nat) (β := List Int) (γ := Bool) (δ := Value) (fun e o2 g2 w2 => [(1, v_l), (4, .pointer (some ⟨b1, 0, none⟩)), (9, w2), (11, .bool g2), (12, .int .i64 (k : Int)), (38, v_n_links), (39, .int .i64 (n.links.length : Int)), (40, .int .i64 (k : Int)), (55, .agg #[.int .i64 x41.a, .int .i64 x41.b, .int .i64 x41.b, .int .i64 x41.a]), (56, .int .i64 (e : Int))]) (fun e o2 g2 w2 hh => Ext h hh ∧ Bx hh b1 [v_n_towers, v_n_links] 32 ∧ SlO hh w2 o2 ∧ Fr h.size w2 ∧ b1 ∉ blks w2 ∧ e ≤ 2 ∧ BFh n l a t o2 g2 k (potO o) x41 e) (fun e o2 g2 w2 => 2 - e) 0 o1 g1 w1 ⟨rfl, rfl, rfl, rfl, rfl, rfl, rfl, rfl, rfl, rfl⟩ ⟨E48, f50, (sl_eq f51 (by simp)), (fr_w1.mono (by omega)), np_b1_w1, (by exact ⟨by omega, BFh.start hbf⟩)⟩ ?_
        rintro e o2 g2 w2 R52 h49 ⟨Eh, bxb1, s_w2, fr_w2, np_b1_w2, ⟨he, hbh⟩⟩
        have zEh := Eh.size
        have f53 := s_n_towers.ext Eh
        have f54 := s_n_links.ext Eh
        have f55 := s_l.ext Eh
        have lbb1 := bxb1.lt
        have lt_w2 := s_w2.lt
        have hok := hn.at hx41
        have heb := end_bd hok e
        have hl2 := hbh.bf.tms.len
        have hlk : lk n (k : Int) = x41 := lk_get hx41
        refine v_seq ?_
        refine v_ops ?_
        refine s_pure (.bool (decide ((e : Int) < 2))) (fun _ q => q) ?_
        refine s_nil ?_
        refine p_seqN ?_
        refine v_seq ?_
        refine v_cond rfl (fun c56 => ?_) (fun c56 => ?_)
        ·
          refine v_skip ?_
          refine p_seqN ?_
          refine v_seq ?_
          refine v_block ?_
          refine v_seq ?_
          refine v_ops ?_
          refine s_pure (.agg #[.int .i64 (end1 x41 e), .int .i64 (end2 x41 e)]) (fun _ q => ends_arr x41 e (by omega) q) ?_
          refine s_new (fun h58 b57 hbb57 hzb57 eh58 bxb57 => ?_)
          have E59 := Eh.trans eh58
          have z60 := eh58.size
          have lbb57 := bxb57.lt
          refine s_stBx (.agg #[.int .i64 (end1 x41 e), .int .i64 (end2 x41 e)]) [.int .i64 (end1 x41 e), .int .i64 (end2 x41 e)] [.int .i64 (end1 x41 e), .int .i64 (end2 x41 e)] bxb57 rfl rfl rfl rfl (by simp) (all_cons rfl (all_cons rfl all_nil)) rfl (fun h61 mh61 sh61 bxx62 => ?_)
          have E63 := E59.mod mh61 (fun b hb => by simp at hb; omega)
          refine s_nil ?_
          refine p_seqN ?_
          refine v_seq ?_
          refine v_ops ?_
          refine s_pure (.pointer (some ⟨b57, 0, none⟩)) (fun _ q => ⟨_, _, _, 0, rfl, rfl, by decide, q⟩) ?_
          refine s_pure (.pointer (some ⟨b57, 1, none⟩)) (fun _ q => ⟨_, _, _, 1, rfl, rfl, by decide, q⟩) ?_
          refine s_load (.int .i64 (end1 x41 e)) (fun _ q => bxx62.load rfl q) ?_
          refine s_pure (.int .i64 (end1 x41 e)) (fun _ q => q) ?_
          refine s_load (.int .i64 (end2 x41 e)) (fun _ q => bxx62.load rfl q) ?_
          refine s_pure (.int .i64 (end2 x41 e)) (fun _ q => q) ?_
          refine s_nil ?_
          refine p_seqN ?_
          refine v_seq ?_
          refine v_seq ?_
          refine v_ops ?_
          refine s_pure w2 (fun _ q => q) ?_
          refine s_pure (.int .i64 (end1 x41 e)) (fun _ q => q) ?_
          have f64 := ((s_w2.ext eh58).mod mh61 (fun b hb hc => by simp at hc; have := lt_w2 b hb; omega))
          have hk65 : ((end1 x41 e)).toNat < o2.length := (by first | omega | (simp; omega))
          obtain ⟨x66, hx66⟩ : ∃ x, o2[((end1 x41 e)).toNat]? = some x := ⟨_, List.getElem?_eq_getElem hk65⟩
          refine s_pure (.pointer (some ⟨sblk w2, soff w2 + (((end1 x41 e)).toNat) * 1, none⟩)) (fun _ q => f64.idx (k := ((end1 x41 e)).toNat) (by omega) hk65 q) ?_
          refine s_load (.int .i64 x66) (fun _ q => f64.load1 hx66 rfl q) ?_
          refine s_pure (.bool (decide (x66 < 0))) (fun _ q => q) ?_
          refine s_nil ?_
          refine p_seqN ?_
          refine v_cond rfl (fun c67 => ?_) (fun c67 => ?_)
          ·
            refine v_exit ?_
            refine p_seqX ?_
            refine p_blkX ?_
            refine p_seqN ?_
            refine v_ops ?_
            refine s_pure (.int .i64 ((e : Int) + 1)) (fun _ q => ArithVC.mk (by omega) q) ?_
            refine s_pure (.int .i64 ((e : Int) + 1)) (fun _ q => q) ?_
            refine s_nil ?_
            have f68 := ((bxb1.ext eh58).mod mh61 (by simp; omega))
            exact p_lpN ⟨e + 1, o2, g2, w2, ⟨rfl, rfl, rfl, rfl, rfl, rfl, rfl, rfl, rfl, rfl⟩, ⟨E63, f68, (sl_eq f64 (by simp)), (fr_w2.mono (by omega)), np_b1_w2, (by first | exact ⟨by omega, hbh.next (half_neg (by omega) (by assumption) (by assumption))⟩ | exact ⟨by omega, BFh.set2 hf hn (by omega) hbh hx41 (by omega) (by omega) (by assumption) (by omega) (by assumption) (by omega)⟩ | exact ⟨by omega, hbh.next (half_ok hx41 (by omega) (by omega) (by assumption) (by assumption) (by omega) (by omega))⟩)⟩, by omega⟩
          ·
            refine v_skip ?_
            refine p_seqN ?_
            refine v_seq ?_
            have f69 := ((bxb1.ext eh58).mod mh61 (by simp; omega))
            refine v_draw (DrawVC.hold ([b1]) ?_)
            refine d_pureT v_l (fun _ q => q) ?_
            refine d_pureT (.int .i64 (k : Int)) (fun _ q => q) ?_
            refine d_pureT w2 (fun _ q => q) ?_
            refine d_pureT (.int .i64 (end1 x41 e)) (fun _ q => q) ?_
            refine d_pureT (.pointer (some ⟨sblk w2, soff w2 + (((end1 x41 e)).toNat) * 1, none⟩)) (fun _ q => f64.idx (k := ((end1 x41 e)).toNat) (by omega) hk65 q) ?_
            refine d_loadT (.agg #[v_n_towers, v_n_links]) (fun _ q => f69.takeA (by simp) rfl q) ?_
            refine d_loadO (.int .i64 x66) (fun _ q => f64.load1 hx66 rfl q) ?_
            refine d_eff ?_
            have f70 := ((f53.ext eh58).mod mh61 (fun b hb hc => by simp at hc; have := lt_n_towers b hb; omega))
            have f71 := ((f54.ext eh58).mod mh61 (fun b hb hc => by simp at hc; have := lt_n_links b hb; omega))
            have f72 := ((f55.ext eh58).mod mh61 (fun b hb hc => by simp at hc; have := lt_l b hb; omega))
            refine s_call [.agg #[v_n_towers, v_n_links], v_l, .int .i64 (k : Int), .int .i64 x66] rfl (impl_goOver_ok n v_n_towers v_n_links v_l l (k : Int) x66 _ f70 f71 f72 m hn hf (by omega) (by have := Bnd.at hn hbh.bf.tms hbh.bf.bnd (by assumption : o2[(end1 _ e).toNat]? = some _); omega)) ?_
            rintro _ h73 ⟨rfl, eh73⟩
            have E74 := E63.trans eh73
            have z75 := eh73.size
            have G76 := eh73
            refine s_nil ⟨fun hl => (by cases hl), ?_⟩
            refine d_pureT (.int .i64 (over l (k : Int) (lk n (k : Int)) x66)) (fun _ q => q) ?_
            refine d_done ?_
            refine p_seqN ?_
            refine v_seq ?_
            refine v_ops ?_
            refine s_pure w2 (fun _ q => q) ?_
            refine s_pure (.int .i64 (end2 x41 e)) (fun _ q => q) ?_
            have f77 := (f64.ext eh73)
            have hk78 : ((end2 x41 e)).toNat < o2.length := (by first | omega | (simp; omega))
            obtain ⟨x79, hx79⟩ : ∃ x, o2[((end2 x41 e)).toNat]? = some x := ⟨_, List.getElem?_eq_getElem hk78⟩
            refine s_pure (.pointer (some ⟨sblk w2, soff w2 + (((end2 x41 e)).toNat) * 1, none⟩)) (fun _ q => f77.idx (k := ((end2 x41 e)).toNat) (by omega) hk78 q) ?_
            refine s_load (.int .i64 x79) (fun _ q => f77.load1 hx79 rfl q) ?_
            refine s_pure (.bool (decide (x79 < 0))) (fun _ q => q) ?_
            refine s_pure (.bool (decide (x79 < 0))) (fun _ q => q) ?_
            refine s_splitT rfl (fun c80 => ?_) (fun c80 => ?_)
            ·
              refine s_pass rfl ?_
              refine s_pass rfl ?_
              refine s_pass rfl ?_
              refine s_pass rfl ?_
              refine s_pass rfl ?_
              refine s_pass rfl ?_
              refine s_pure (.bool true) (fun _ q => q) ?_
              refine s_nil ?_
              refine p_seqN ?_
              refine v_condY rfl rfl ?_
              refine v_ops ?_
              refine s_pure w2 (fun _ q => q) ?_
              refine s_pure (.int .i64 (end2 x41 e)) (fun _ q => q) ?_
              refine s_pure (.int .i64 (over l (k : Int) (lk n (k : Int)) x66)) (fun _ q => q) ?_
              refine s_pure (.pointer (some ⟨sblk w2, soff w2 + (((end2 x41 e)).toNat) * 1, none⟩)) (fun _ q => f77.idx (k := ((end2 x41 e)).toNat) (by omega) hk78 q) ?_
              refine s_stSl (k := ((end2 x41 e)).toNat) (j := 0) (over l (k : Int) (lk n (k : Int)) x66) (.int .i64 (over l (k : Int) (lk n (k : Int)) x66)) [.int .i64 (over l (k : Int) (lk n (k : Int)) x66)] f77 rfl rfl rfl rfl rfl hx79 (Nat.le_of_ble_eq_true rfl) rfl (all_cons rfl all_nil) (fun h81 mh81 sh81 s82 => ?_)
              have E83 := E74.mod mh81 (fun b hb => by have := fr_w2 b hb; omega)
              refine s_pure (.bool true) (fun _ q => q) ?_
              refine s_nil ?_
              refine p_blkN ?_
              refine p_seqN ?_
              refine v_ops ?_
              refine s_pure (.int .i64 ((e : Int) + 1)) (fun _ q => ArithVC.mk (by omega) q) ?_
              refine s_pure (.int .i64 ((e : Int) + 1)) (fun _ q => q) ?_
              refine s_nil ?_
              have f84 := ((f69.ext eh73).mod mh81 np_b1_w2)
              exact p_lpN ⟨e + 1, (o2.set (((end2 x41 e)).toNat) (over l (k : Int) (lk n (k : Int)) x66)), true, w2, ⟨rfl, rfl, rfl, rfl, rfl, rfl, rfl, rfl, rfl, rfl⟩, ⟨E83, f84, (sl_eq s82 (by simp)), (fr_w2.mono (by omega)), np_b1_w2, (by first | exact ⟨by omega, hbh.next (half_neg (by omega) (by assumption) (by assumption))⟩ | exact ⟨by omega, BFh.set2 hf hn (by omega) hbh hx41 (by omega) (by omega) (by assumption) (by omega) (by assumption) (by omega)⟩ | exact ⟨by omega, hbh.next (half_ok hx41 (by omega) (by omega) (by assumption) (by assumption) (by omega) (by omega))⟩)⟩, by omega⟩
            ·
              refine s_run rfl ?_
              refine s_pure (.int .i64 (over l (k : Int) (lk n (k : Int)) x66)) (fun _ q => q) ?_
              refine s_run rfl ?_
              refine s_pure w2 (fun _ q => q) ?_
              refine s_run rfl ?_
              refine s_pure (.int .i64 (end2 x41 e)) (fun _ q => q) ?_
              refine s_run rfl ?_
              refine s_pure (.pointer (some ⟨sblk w2, soff w2 + (((end2 x41 e)).toNat) * 1, none⟩)) (fun _ q => f77.idx (k := ((end2 x41 e)).toNat) (by omega) hk78 q) ?_
              refine s_run rfl ?_
              refine s_load (.int .i64 x79) (fun _ q => f77.load1 hx79 rfl q) ?_
              refine s_run rfl ?_
              refine s_pure (.bool (decide ((over l (k : Int) (lk n (k : Int)) x66) < x79))) (fun _ q => q) ?_
              refine s_pure (.bool (decide ((over l (k : Int) (lk n (k : Int)) x66) < x79))) (fun _ q => q) ?_
              refine s_nil ?_
              refine p_seqN ?_
              refine v_cond rfl (fun c85 => ?_) (fun c85 => ?_)
              ·
                refine v_ops ?_
                refine s_pure w2 (fun _ q => q) ?_
                refine s_pure (.int .i64 (end2 x41 e)) (fun _ q => q) ?_
                refine s_pure (.int .i64 (over l (k : Int) (lk n (k : Int)) x66)) (fun _ q => q) ?_
                refine s_pure (.pointer (some ⟨sblk w2, soff w2 + (((end2 x41 e)).toNat) * 1, none⟩)) (fun _ q => f77.idx (k := ((end2 x41 e)).toNat) (by omega) hk78 q) ?_
                refine s_stSl (k := ((end2 x41 e)).toNat) (j := 0) (over l (k : Int) (lk n (k : Int)) x66) (.int .i64 (over l (k : Int) (lk n (k : Int)) x66)) [.int .i64 (over l (k : Int) (lk n (k : Int)) x66)] f77 rfl rfl rfl rfl rfl hx79 (Nat.le_of_ble_eq_true rfl) rfl (all_cons rfl all_nil) (fun h86 mh86 sh86 s87 => ?_)
                have E88 := E74.mod mh86 (fun b hb => by have := fr_w2 b hb; omega)
                refine s_pure (.bool true) (fun _ q => q) ?_
                refine s_nil ?_
                refine p_blkN ?_
                refine p_seqN ?_
                refine v_ops ?_
                refine s_pure (.int .i64 ((e : Int) + 1)) (fun _ q => ArithVC.mk (by omega) q) ?_
                refine s_pure (.int .i64 ((e : Int) + 1)) (fun _ q => q) ?_
                refine s_nil ?_
                have f89 := ((f69.ext eh73).mod mh86 np_b1_w2)
                exact p_lpN ⟨e + 1, (o2.set (((end2 x41 e)).toNat) (over l (k : Int) (lk n (k : Int)) x66)), true, w2, ⟨rfl, rfl, rfl, rfl, rfl, rfl, rfl, rfl, rfl, rfl⟩, ⟨E88, f89, (sl_eq s87 (by simp)), (fr_w2.mono (by omega)), np_b1_w2, (by first | exact ⟨by omega, hbh.next (half_neg (by omega) (by assumption) (by assumption))⟩ | exact ⟨by omega, BFh.set2 hf hn (by omega) hbh hx41 (by omega) (by omega) (by assumption) (by omega) (by assumption) (by omega)⟩ | exact ⟨by omega, hbh.next (half_ok hx41 (by omega) (by omega) (by assumption) (by assumption) (by omega) (by omega))⟩)⟩, by omega⟩
              ·
                refine v_skip ?_
                refine p_blkN ?_
                refine p_seqN ?_
                refine v_ops ?_
                refine s_pure (.int .i64 ((e : Int) + 1)) (fun _ q => ArithVC.mk (by omega) q) ?_
                refine s_pure (.int .i64 ((e : Int) + 1)) (fun _ q => q) ?_
                refine s_nil ?_
                have f90 := (f69.ext eh73)
                exact p_lpN ⟨e + 1, o2, g2, w2, ⟨rfl, rfl, rfl, rfl, rfl, rfl, rfl, rfl, rfl, rfl⟩, ⟨E74, f90, (sl_eq f77 (by simp)), (fr_w2.mono (by omega)), np_b1_w2, (by first | exact ⟨by omega, hbh.next (half_neg (by omega) (by assumption) (by assumption))⟩ | exact ⟨by omega, BFh.set2 hf hn (by omega) hbh hx41 (by omega) (by omega) (by assumption) (by omega) (by assumption) (by omega)⟩ | exact ⟨by omega, hbh.next (half_ok hx41 (by omega) (by omega) (by assumption) (by assumption) (by omega) (by omega))⟩)⟩, by omega⟩
        ·
          refine v_exit ?_
          refine p_seqX ?_
          refine p_lpX ?_
          refine p_blkX ?_
          refine p_blkN ?_
          refine p_seqN ?_
          refine v_ops ?_
          refine s_pure (.int .i64 ((k : Int) + 1)) (fun _ q => ArithVC.mk (by omega) q) ?_
          refine s_pure (.int .i64 ((k : Int) + 1)) (fun _ q => q) ?_
          refine s_nil ?_
          exact p_lpN ⟨k + 1, o2, g2, w2, ⟨rfl, rfl, rfl, rfl, rfl, rfl, rfl⟩, ⟨Eh, bxb1, (sl_eq s_w2 (by simp)), (fr_w2.mono (by omega)), np_b1_w2, (by exact ⟨by omega, hbh.ends (by omega) (by assumption)⟩)⟩, by omega⟩
      ·
        refine v_exit ?_
        refine p_seqX ?_
        refine p_lpX ?_
        refine p_blkX ?_
        refine p_blkN ?_
        exact p_lpN ⟨o1, g1, w1, ⟨rfl, rfl, rfl, rfl⟩, ⟨Eh, bxb1, (sl_eq s_w1 (by simp)), (fr_w1.mono (by omega)), np_b1_w1, (by exact ⟨hbf.tms, hbf.bnd, fun q => hbf.done_all q (by omega)⟩)⟩, by exact hbf.dec (by assumption)⟩
    ·
      refine v_exit ?_
      refine p_seqX ?_
      refine p_lpX ?_
      refine p_blkX ?_
      refine p_seqN ?_
      refine v_seq ?_
      refine v_ops ?_
      refine s_pure w (fun _ q => q) ?_
      refine s_pure w (fun _ q => q) ?_
      refine s_nil ?_
      refine p_seqN ?_
      refine v_ret ?_
      refine p_ret [w] w (fun _ q => q) rfl ?_
      have ho : (arrOf n l a t) = o := by exact (arrOf_eq hn ha ht.1 ⟨hT, hD (by simpa using (by assumption : ¬ _ = true))⟩).symm
      exact ⟨w, by first | (rw [ho]; done) | rfl, sl_eq s_w (congrArg (fun o => o) ho).symm, fr_w.mono (by omega), Eh⟩

theorem spec_roOther_ok (x : LinkD) (i : Int) (h : Heap)  : Cn f_spec_roOther [.agg #[.int .i64 x.a, .int .i64 x.b, .int .i64 x.delay], .int .i64 i] h fun v h' => v = .int .i64 (othr x i) ∧ Ext h h' := by
  refine calls_of r_spec_roOther ?_
  refine v_seq ?_
  refine v_ops ?_
  refine s_box [.int .i64 x.a, .int .i64 x.b, .int .i64 x.delay] rfl (fun h2 b1 hbb1 hzb1 eh2 bxb1 => ?_)
  have E3 := (Ext.refl h).trans eh2
  have z4 := eh2.size
  have lbb1 := bxb1.lt
  refine s_pure (.int .i64 0) (fun _ q => q) ?_
  refine s_nil ?_
  refine p_seqN ?_
  refine v_seq ?_
  refine v_seq ?_
  refine v_ops ?_
  refine s_pure (.int .i64 i) (fun _ q => q) ?_
  refine s_nil ?_
  refine p_seqN ?_
  refine v_block ?_
  refine v_seq ?_
  refine v_ops ?_
  refine s_pure (.pointer (some ⟨b1, 0, none⟩)) (fun _ q => q) ?_
  refine s_load (.int .i64 x.a) (fun _ q => bxb1.load rfl q) ?_
  refine s_pure (.bool (i == x.a)) (fun _ q => q) ?_
  refine s_pure (.bool (i == x.a)) (fun _ q => q) ?_
  refine s_nil ?_
  refine p_seqN ?_
  refine v_cond rfl (fun c5 => ?_) (fun c5 => ?_)
  ·
    refine v_seq ?_
    refine v_ops ?_
    refine s_pure (.pointer (some ⟨b1, 1, none⟩)) (fun _ q => q) ?_
    refine s_load (.int .i64 x.b) (fun _ q => bxb1.load rfl q) ?_
    refine s_pure (.int .i64 x.b) (fun _ q => q) ?_
    refine s_nil ?_
    refine p_seqN ?_
    refine v_ret ?_
    refine p_blkR ?_
    refine p_seqR ?_
    refine p_ret [.int .i64 x.b] (.int .i64 x.b) (fun _ q => q) rfl ?_
    have ho : (othr x i) = x.b := by unfold othr; first | (rw [if_pos (by omega)]; done) | (rw [if_neg (by omega), if_pos (by omega)]; done) | (rw [if_neg (by omega), if_neg (by omega)]; done)
    exact ⟨by first | (rw [ho]; done) | rfl, E3⟩
  ·
    refine v_seq ?_
    refine v_ops ?_
    refine s_pure (.pointer (some ⟨b1, 1, none⟩)) (fun _ q => q) ?_
    refine s_load (.int .i64 x.b) (fun _ q => bxb1.load rfl q) ?_
    refine s_pure (.bool (i == x.b)) (fun _ q => q) ?_
    refine s_pure (.bool (i == x.b)) (fun _ q => q) ?_
    refine s_nil ?_
    refine p_seqN ?_
    refine v_cond rfl (fun c6 => ?_) (fun c6 => ?_)
    ·
      refine v_seq ?_
      refine v_ops ?_
      refine s_pure (.pointer (some ⟨b1, 0, none⟩)) (fun _ q => q) ?_
      refine s_load (.int .i64 x.a) (fun _ q => bxb1.load rfl q) ?_
      refine s_pure (.int .i64 x.a) (fun _ q => q) ?_
      refine s_nil ?_
      refine p_seqN ?_
      refine v_ret ?_
      refine p_blkR ?_
      refine p_seqR ?_
      refine p_ret [.int .i64 x.a] (.int .i64 x.a) (fun _ q => q) rfl ?_
      have ho : (othr x i) = x.a := by unfold othr; first | (rw [if_pos (by omega)]; done) | (rw [if_neg (by omega), if_pos (by omega)]; done) | (rw [if_neg (by omega), if_neg (by omega)]; done)
      exact ⟨by first | (rw [ho]; done) | rfl, E3⟩
    ·
      refine v_skip ?_
      refine p_blkN ?_
      refine p_seqN ?_
      refine v_seq ?_
      refine v_ops ?_
      refine s_pure (.int .i64 (-1)) (fun _ q => q) ?_
      refine s_nil ?_
      refine p_seqN ?_
      refine v_ret ?_
      refine p_ret [.int .i64 (-1)] (.int .i64 (-1)) (fun _ q => q) rfl ?_
      have ho : (othr x i) = (-1) := by unfold othr; first | (rw [if_pos (by omega)]; done) | (rw [if_neg (by omega), if_pos (by omega)]; done) | (rw [if_neg (by omega), if_neg (by omega)]; done)
      exact ⟨by first | (rw [ho]; done) | rfl, E3⟩

set_option maxRecDepth 10000 in
set_option maxHeartbeats 4000000 in
theorem spec_roFirst_ok (n : NetP) (v_n_towers : Value) (v_n_links : Value) (v_l : Value) (l : List FogD) (a : Int) (t : Int) (h : Heap) (s_n_towers : Sl h v_n_towers n.towers) (s_n_links : Sl h v_n_links n.links) (s_l : Sl h v_l l) (m : Nat) (hn : NetOk n) (hf : FogsOk m l) (ha : 0 ≤ a ∧ a ≤ (n.towers.length : Int) - 1) (ht : 0 ≤ t ∧ t ≤ 10000) : Cn f_spec_roFirst [.agg #[v_n_towers, v_n_links], v_l, .int .i64 a, .int .i64 t] h fun v h' => ∃ r0 : Value, v = r0 ∧ SlO h' r0 (arrOf n l a t) ∧ Fr h.size r0 ∧ Ext h h' := by
  have lt_n_towers := s_n_towers.lt
  have l63_n_towers := s_n_towers.len63
  have lt_n_links := s_n_links.lt
  have l63_n_links := s_n_links.len63
  have lt_l := s_l.lt
  have l63_l := s_l.len63
  have hst := arr_start (l := l) ha ht
  have ht2 := hn.t2
  refine calls_of r_spec_roFirst ?_
  refine v_seq ?_
  refine v_ops ?_
  refine s_box [v_n_towers, v_n_links] rfl (fun h2 b1 hbb1 hzb1 eh2 bxb1 => ?_)
  have E3 := (Ext.refl h).trans eh2
  have z4 := eh2.size
  have lbb1 := bxb1.lt
  refine s_pure (.slice none 0 0) (fun _ q => q) ?_
  refine s_nil ?_
  refine p_seqN ?_
  refine v_seq ?_
  refine v_ops ?_
  refine s_pure (.slice none 0 0) (fun _ q => q) ?_
  refine s_nil ?_
  refine p_seqN ?_
  refine v_seq ?_
  refine v_seq ?_
  refine v_ops ?_
  refine s_pure (.pointer (some ⟨b1, 0, none⟩)) (fun _ q => q) ?_
  refine s_load v_n_towers (fun _ q => bxb1.load rfl q) ?_
  refine s_pure (.int .i64 (n.towers.length : Int)) (fun _ q => s_n_towers.lenVC q) ?_
  refine s_pure (.int .i64 0) (fun _ q => q) ?_
  refine s_nil ?_
  refine p_seqN ?_
  refine v_block ?_
  refine v_loop3 (α := Nat) (β := List Int) (γ := Value) (fun k o w => [(1, v_l), (2, .int .i64 a), (3, .int .i64 t), (4, .pointer (some ⟨b1, 0, none⟩)), (9, w), (20, .int .i64 (n.towers.length : Int)), (21, .int .i64 (k : Int))]) (fun k o w hh => Ext h hh ∧ Bx hh b1 [v_n_towers, v_n_links] 32 ∧ SlO hh w o ∧ Fr h.size w ∧ b1 ∉ blks w ∧ k ≤ n.towers.length ∧ o = List.replicate k (-1)) (fun k o w => n.towers.length - k) 0 [] (.slice none 0 0) ⟨rfl, rfl, rfl, rfl, rfl, rfl, rfl⟩ ⟨E3, bxb1, (sl_eq (SlX.nil (α := Int) true h2) (by simp)), (Fr.nil _), (by simp [blks, fpts]), (by simp)⟩ ?_
  rintro k o w R6 h5 ⟨Eh, bxb1, s_w, fr_w, np_b1_w, ⟨hk, ho⟩⟩
  have zEh := Eh.size
  have f7 := s_n_towers.ext Eh
  have f8 := s_n_links.ext Eh
  have f9 := s_l.ext Eh
  have lbb1 := bxb1.lt
  have lt_w := s_w.lt
  have hl : o.length = k := by rw [ho]; simp
  refine v_seq ?_
  refine v_ops ?_
  refine s_pure (.bool (decide ((k : Int) < (n.towers.length : Int)))) (fun _ q => q) ?_
  refine s_nil ?_
  refine p_seqN ?_
  refine v_seq ?_
  refine v_cond rfl (fun c10 => ?_) (fun c10 => ?_)
  ·
    refine v_skip ?_
    refine p_seqN ?_
    refine v_seq ?_
    refine v_block ?_
    refine v_ops ?_
    refine s_pure w (fun _ q => q) ?_
    refine s_row (α := Int) [(-1)] (fun _ q => seg_i rfl (seg_nil q)) rfl (by simp [maxLen]) (fun r11 h12 eh12 zh12 s_r11 fr_r11 => ?_)
    have E13 := Eh.trans eh12
    have z14 := eh12.size
    have lt_r11 := s_r11.lt
    have f15 := (s_w.ext eh12)
    refine s_app f15 s_r11 rfl rfl rfl (by simp [maxLen]; omega) (by simp; omega) (fun r16 h17 mh17 zh17 s_r16 ab_r16 => ?_)
    have E18 := E13.mod mh17 (fun b hb => by have := fr_w b hb; omega)
    have fr_r16 := fr_w.app ab_r16 (by omega)
    have np19 : b1 ∉ blks r16 := fun hc => (ab_r16 _ hc).elim np_b1_w (fun hc => by omega)
    have np20 : ∀ b ∈ blks r11, b ∉ blks r16 := fun b hb hc => (ab_r16 _ hc).elim (((fun b hb hc => by have := fr_r11 b hb; have := lt_w b hc; omega) : ∀ b ∈ blks r11, b ∉ blks w) b hb) (fun hc => by have := lt_r11 b hb; omega)
    have lt_r16 := s_r16.lt
    refine s_pure r16 (fun _ q => q) ?_
    refine s_nil ?_
    refine p_blkN ?_
    refine p_seqN ?_
    refine v_ops ?_
    refine s_pure (.int .i64 ((k : Int) + 1)) (fun _ q => ArithVC.mk (by omega) q) ?_
    refine s_pure (.int .i64 ((k : Int) + 1)) (fun _ q => q) ?_
    refine s_nil ?_
    have f21 := ((bxb1.ext eh12).mod mh17 np_b1_w)
    exact p_lpN ⟨k + 1, (o ++ [(-1)]), r16, ⟨rfl, rfl, rfl, rfl, rfl, rfl, rfl⟩, ⟨E18, f21, (sl_eq s_r16 (by simp)), (fr_r16.mono (by omega)), np19, (by exact ⟨by omega, by rw [ho, rep_snoc]⟩)⟩, by omega⟩
  ·
    refine v_exit ?_
    refine p_seqX ?_
    refine p_lpX ?_
    refine p_blkX ?_
    refine p_seqN ?_
    refine v_seq ?_
    refine v_ops ?_
    refine s_pure w (fun _ q => q) ?_
    refine s_pure (.int .i64 a) (fun _ q => q) ?_
    refine s_pure (.int .i64 t) (fun _ q => q) ?_
    have hk22 : (a).toNat < o.length := (by first | omega | (simp; omega))
    obtain ⟨x23, hx23⟩ : ∃ x, o[(a).toNat]? = some x := ⟨_, List.getElem?_eq_getElem hk22⟩
    refine s_pure (.pointer (some ⟨sblk w, soff w + ((a).toNat) * 1, none⟩)) (fun _ q => s_w.idx (k := (a).toNat) (by omega) hk22 q) ?_
    refine s_stSl (k := (a).toNat) (j := 0) t (.int .i64 t) [.int .i64 t] s_w rfl rfl rfl rfl rfl hx23 (Nat.le_of_ble_eq_true rfl) rfl (all_cons rfl all_nil) (fun h24 mh24 sh24 s25 => ?_)
    have E26 := Eh.mod mh24 (fun b hb => by have := fr_w b hb; omega)
    refine s_nil ?_
    refine p_seqN ?_
    refine v_seq ?_
    refine v_ops ?_
    refine s_pure (.pointer (some ⟨b1, 0, none⟩)) (fun _ q => q) ?_
    have f27 := (bxb1.mod mh24 np_b1_w)
    refine s_load v_n_towers (fun _ q => f27.load rfl q) ?_
    refine s_pure (.int .i64 (n.towers.length : Int)) (fun _ q => f7.lenVC q) ?_
    refine s_mk (α := Bool) n.towers.length false rfl rfl rfl rfl rfl rfl (by simp [maxLen]; omega) (by omega) (fun r28 h29 eh29 zh29 s_r28 fr_r28 => ?_)
    have E30 := E26.trans eh29
    have z31 := eh29.size
    have lt_r28 := s_r28.lt
    refine s_pure r28 (fun _ q => q) ?_
    refine s_nil ?_
    refine p_seqN ?_
    refine v_block ?_
    have f33 := (f27.ext eh29)
    have f34 := (s25.ext eh29)
    refine v_loop4 (α := List Int) (β := List Bool) (γ := Value) (δ := Value) (fun o d w y => [(1, v_l), (4, .pointer (some ⟨b1, 0, none⟩)), (9, w), (10, y)]) (fun o d w y hh => Ext h hh ∧ Bx hh b1 [v_n_towers, v_n_links] 32 ∧ SlO hh w o ∧ Fr h.size w ∧ SlO hh y d ∧ Fr h.size y ∧ b1 ∉ blks w ∧ (∀ b ∈ blks y, b ∉ blks w) ∧ b1 ∉ blks y ∧ Dij n l a t o d) (fun o d w y => undone d) (o.set ((a).toNat) t) (List.replicate n.towers.length false) w r28 ⟨rfl, rfl, rfl, rfl⟩ ⟨E30, f33, (sl_eq f34 (by simp)), (fr_w.mono (by omega)), (sl_eq s_r28 (by simp)), (fr_r28.mono (by omega)), np_b1_w, (fun b hb hc => by have := fr_r28 b hb; have := lt_w b hc; omega), (fun hc => by have := fr_r28 _ hc; omega), (by obtain rfl : k = n.towers.length := (by omega); rw [ho]; exact Dij.start hst.1 hst.2)⟩ ?_
    rintro o d w y R35 h32 ⟨Eh, bxb1, s_w, fr_w, s_y, fr_y, np_b1_w, np_y_w, np_b1_y, hdj⟩
    have zEh := Eh.size
    have f36 := s_n_towers.ext Eh
    have f37 := s_n_links.ext Eh
    have f38 := s_l.ext Eh
    have lbb1 := bxb1.lt
    have lt_w := s_w.lt
    have lt_y := s_y.lt
    have hol := hdj.tms.len
    have hdl := hdj.len
    refine v_block ?_
    refine v_seq ?_
    refine v_ops ?_
    refine s_pure (.int .i64 (-1)) (fun _ q => q) ?_
    refine s_nil ?_
    refine p_seqN ?_
    refine v_seq ?_
    refine v_seq ?_
    refine v_ops ?_
    refine s_pure w (fun _ q => q) ?_
    refine s_pure (.int .i64 (o.length : Int)) (fun _ q => s_w.lenVC q) ?_
    refine s_pure (.int .i64 0) (fun _ q => q) ?_
    refine s_nil ?_
    refine p_seqN ?_
    refine v_block ?_
    refine v_loop2 (α := Nat) (β := Int) (fun k i => [(1, v_l), (4, .pointer (some ⟨b1, 0, none⟩)), (9, w), (10, y), (11, .int .i64 i), (35, w), (36, .int .i64 (o.length : Int)), (37, .int .i64 (k : Int))]) (fun k i hh => Ext h hh ∧ Bx hh b1 [v_n_towers, v_n_links] 32 ∧ SlO hh w o ∧ SlO hh y d ∧ k ≤ o.length ∧ (-1 ≤ i ∧ i < o.length) ∧ Least o d k i) (fun k i => o.length - k) 0 (-1) ⟨rfl, rfl, rfl, rfl, rfl, rfl, rfl, rfl⟩ ⟨Eh, bxb1, s_w, s_y, (by exact ⟨by omega, by (have := hn.t1); omega, Least.start o d⟩)⟩ ?_
    rintro k i R40 h39 ⟨Eh, bxb1, s_w, s_y, ⟨hk, hib, hle⟩⟩
    have zEh := Eh.size
    have f41 := s_n_towers.ext Eh
    have f42 := s_n_links.ext Eh
    have f43 := s_l.ext Eh
    have lbb1 := bxb1.lt
    have ltk_w := s_w.lt
    have ltk_y := s_y.lt
    have hik : 0 ≤ i → i < k := fun q => (hle.yes q).1
    refine v_seq ?_
    refine v_ops ?_
    refine s_pure (.bool (decide ((k : Int) < (o.length : Int)))) (fun _ q => q) ?_
    refine s_nil ?_
    refine p_seqN ?_
    refine v_seq ?_
    refine v_cond rfl (fun c44 => ?_) (fun c44 => ?_)
    ·
      refine v_skip ?_
      refine p_seqN ?_
      refine v_seq ?_
      refine v_block ?_
      refine v_seq ?_
      refine v_ops ?_
      refine s_pure (.int .i64 (k : Int)) (fun _ q => q) ?_
      have hk45 : k < o.length := (by first | omega | (simp; omega))
      obtain ⟨x46, hx46⟩ : ∃ x, o[k]? = some x := ⟨_, List.getElem?_eq_getElem hk45⟩
      refine s_pure (.pointer (some ⟨sblk w, soff w + k * 1, none⟩)) (fun _ q => s_w.idx (k := k) rfl hk45 q) ?_
      refine s_load (.int .i64 x46) (fun _ q => s_w.load1 hx46 rfl q) ?_
      refine s_pure (.int .i64 (k : Int)) (fun _ q => q) ?_
      refine s_pure (.int .i64 x46) (fun _ q => q) ?_
      refine s_nil ?_
      refine p_seqN ?_
      refine v_seq ?_
      refine v_ops ?_
      refine s_pure y (fun _ q => q) ?_
      refine s_pure (.int .i64 (k : Int)) (fun _ q => q) ?_
      have hk47 : k < d.length := (by first | omega | (simp; omega))
      obtain ⟨x48, hx48⟩ : ∃ x, d[k]? = some x := ⟨_, List.getElem?_eq_getElem hk47⟩
      refine s_pure (.pointer (some ⟨sblk y, soff y + k * 1, none⟩)) (fun _ q => s_y.idx (k := k) rfl hk47 q) ?_
      refine s_load (.bool x48) (fun _ q => s_y.load1 hx48 rfl q) ?_
      refine s_pure (.bool (!x48)) (fun _ q => q) ?_
      refine s_pure (.bool (!x48)) (fun _ q => q) ?_
      refine s_splitT rfl (fun c49 => ?_) (fun c49 => ?_)
      ·
        refine s_run rfl ?_
        refine s_pure (.int .i64 x46) (fun _ q => q) ?_
        refine s_run rfl ?_
        refine s_pure (.bool (decide (x46 ≥ 0))) (fun _ q => q) ?_
        refine s_pure (.bool (decide (x46 ≥ 0))) (fun _ q => q) ?_
        refine s_pure (.bool (decide (x46 ≥ 0))) (fun _ q => q) ?_
        refine s_splitT rfl (fun c50 => ?_) (fun c50 => ?_)
        ·
          refine s_run rfl ?_
          refine s_pure (.int .i64 i) (fun _ q => q) ?_
          refine s_run rfl ?_
          refine s_pure (.bool (decide (i < 0))) (fun _ q => q) ?_
          refine s_run rfl ?_
          refine s_pure (.bool (decide (i < 0))) (fun _ q => q) ?_
          refine s_splitT rfl (fun c51 => ?_) (fun c51 => ?_)
          ·
            refine s_pass rfl ?_
            refine s_pass rfl ?_
            refine s_pass rfl ?_
            refine s_pass rfl ?_
            refine s_pass rfl ?_
            refine s_pass rfl ?_
            refine s_run rfl ?_
            refine s_pure (.bool true) (fun _ q => q) ?_
            refine s_pure (.bool true) (fun _ q => q) ?_
            refine s_nil ?_
            refine p_seqN ?_
            refine v_condY rfl rfl ?_
            refine v_ops ?_
            refine s_pure (.int .i64 (k : Int)) (fun _ q => q) ?_
            refine s_pure (.int .i64 (k : Int)) (fun _ q => q) ?_
            refine s_nil ?_
            refine p_blkN ?_
            refine p_seqN ?_
            refine v_ops ?_
            refine s_pure (.int .i64 ((k : Int) + 1)) (fun _ q => ArithVC.mk (by omega) q) ?_
            refine s_pure (.int .i64 ((k : Int) + 1)) (fun _ q => q) ?_
            refine s_nil ?_
            exact p_lpN ⟨k + 1, (k : Int), ⟨rfl, rfl, rfl, rfl, rfl, rfl, rfl, rfl⟩, ⟨Eh, bxb1, s_w, s_y, (by first | exact ⟨by omega, by omega, hle.keepD (by assumption) (by assumption)⟩ | exact ⟨by omega, by omega, hle.keepN (by assumption) (by assumption)⟩ | exact ⟨by omega, by omega, hle.take2 (by assumption) (by assumption) (by assumption) (by assumption) (by first | exact .inl (by assumption) | exact .inr ⟨_, by assumption, by assumption⟩)⟩ | exact ⟨by omega, by omega, hle.keepL (by assumption) (by assumption) (by assumption) (by assumption)⟩)⟩, by omega⟩
          ·
            refine s_run rfl ?_
            refine s_pure (.int .i64 x46) (fun _ q => q) ?_
            refine s_run rfl ?_
            refine s_pure w (fun _ q => q) ?_
            refine s_run rfl ?_
            refine s_pure (.int .i64 i) (fun _ q => q) ?_
            refine s_run rfl ?_
            have hk52 : (i).toNat < o.length := (by first | omega | (simp; omega))
            obtain ⟨x53, hx53⟩ : ∃ x, o[(i).toNat]? = some x := ⟨_, List.getElem?_eq_getElem hk52⟩
            refine s_pure (.pointer (some ⟨sblk w, soff w + ((i).toNat) * 1, none⟩)) (fun _ q => s_w.idx (k := (i).toNat) (by omega) hk52 q) ?_
            refine s_run rfl ?_
            refine s_load (.int .i64 x53) (fun _ q => s_w.load1 hx53 rfl q) ?_
            refine s_run rfl ?_
            refine s_pure (.bool (decide (x46 < x53))) (fun _ q => q) ?_
            refine s_run rfl ?_
            refine s_pure (.bool (decide (x46 < x53))) (fun _ q => q) ?_
            refine s_pure (.bool (decide (x46 < x53))) (fun _ q => q) ?_
            refine s_nil ?_
            refine p_seqN ?_
            refine v_cond rfl (fun c54 => ?_) (fun c54 => ?_)
            ·
              refine v_ops ?_
              refine s_pure (.int .i64 (k : Int)) (fun _ q => q) ?_
              refine s_pure (.int .i64 (k : Int)) (fun _ q => q) ?_
              refine s_nil ?_
              refine p_blkN ?_
              refine p_seqN ?_
              refine v_ops ?_
              refine s_pure (.int .i64 ((k : Int) + 1)) (fun _ q => ArithVC.mk (by omega) q) ?_
              refine s_pure (.int .i64 ((k : Int) + 1)) (fun _ q => q) ?_
              refine s_nil ?_
              exact p_lpN ⟨k + 1, (k : Int), ⟨rfl, rfl, rfl, rfl, rfl, rfl, rfl, rfl⟩, ⟨Eh, bxb1, s_w, s_y, (by first | exact ⟨by omega, by omega, hle.keepD (by assumption) (by assumption)⟩ | exact ⟨by omega, by omega, hle.keepN (by assumption) (by assumption)⟩ | exact ⟨by omega, by omega, hle.take2 (by assumption) (by assumption) (by assumption) (by assumption) (by first | exact .inl (by assumption) | exact .inr ⟨_, by assumption, by assumption⟩)⟩ | exact ⟨by omega, by omega, hle.keepL (by assumption) (by assumption) (by assumption) (by assumption)⟩)⟩, by omega⟩
            ·
              refine v_skip ?_
              refine p_blkN ?_
              refine p_seqN ?_
              refine v_ops ?_
              refine s_pure (.int .i64 ((k : Int) + 1)) (fun _ q => ArithVC.mk (by omega) q) ?_
              refine s_pure (.int .i64 ((k : Int) + 1)) (fun _ q => q) ?_
              refine s_nil ?_
              exact p_lpN ⟨k + 1, i, ⟨rfl, rfl, rfl, rfl, rfl, rfl, rfl, rfl⟩, ⟨Eh, bxb1, s_w, s_y, (by first | exact ⟨by omega, by omega, hle.keepD (by assumption) (by assumption)⟩ | exact ⟨by omega, by omega, hle.keepN (by assumption) (by assumption)⟩ | exact ⟨by omega, by omega, hle.take2 (by assumption) (by assumption) (by assumption) (by assumption) (by first | exact .inl (by assumption) | exact .inr ⟨_, by assumption, by assumption⟩)⟩ | exact ⟨by omega, by omega, hle.keepL (by assumption) (by assumption) (by assumption) (by assumption)⟩)⟩, by omega⟩
        ·
          refine s_pass rfl ?_
          refine s_pass rfl ?_
          refine s_pass rfl ?_
          refine s_splitU rfl ?_
          refine s_passU rfl ?_
          refine s_passU rfl ?_
          refine s_passU rfl ?_
          refine s_passU rfl ?_
          refine s_passU rfl ?_
          refine s_passU rfl ?_
          refine s_pass rfl ?_
          refine s_pure (.bool false) (fun _ q => q) ?_
          refine s_nil ?_
          refine p_seqN ?_
          refine v_condN rfl (by simp) ?_
          refine v_skip ?_
          refine p_blkN ?_
          refine p_seqN ?_
          refine v_ops ?_
          refine s_pure (.int .i64 ((k : Int) + 1)) (fun _ q => ArithVC.mk (by omega) q) ?_
          refine s_pure (.int .i64 ((k : Int) + 1)) (fun _ q => q) ?_
          refine s_nil ?_
          exact p_lpN ⟨k + 1, i, ⟨rfl, rfl, rfl, rfl, rfl, rfl, rfl, rfl⟩, ⟨Eh, bxb1, s_w, s_y, (by first | exact ⟨by omega, by omega, hle.keepD (by assumption) (by assumption)⟩ | exact ⟨by omega, by omega, hle.keepN (by assumption) (by assumption)⟩ | exact ⟨by omega, by omega, hle.take2 (by assumption) (by assumption) (by assumption) (by assumption) (by first | exact .inl (by assumption) | exact .inr ⟨_, by assumption, by assumption⟩)⟩ | exact ⟨by omega, by omega, hle.keepL (by assumption) (by assumption) (by assumption) (by assumption)⟩)⟩, by omega⟩
      ·
        have c49 := Classical.not_not.1 c49
        refine s_pass rfl ?_
        refine s_pass rfl ?_
        refine s_pure (.bool false) (fun _ q => q) ?_
        refine s_pure (.bool false) (fun _ q => q) ?_
        refine s_splitN rfl (by simp) ?_
        refine s_pass rfl ?_
        refine s_pass rfl ?_
        refine s_pass rfl ?_
        refine s_splitU rfl ?_
        refine s_passU rfl ?_
        refine s_passU rfl ?_
        refine s_passU rfl ?_
        refine s_passU rfl ?_
        refine s_passU rfl ?_
        refine s_passU rfl ?_
        refine s_pass rfl ?_
        refine s_pure (.bool false) (fun _ q => q) ?_
        refine s_nil ?_
        refine p_seqN ?_
        refine v_condN rfl (by simp) ?_
        refine v_skip ?_
        refine p_blkN ?_
        refine p_seqN ?_
        refine v_ops ?_
        refine s_pure (.int .i64 ((k : Int) + 1)) (fun _ q => ArithVC.mk (by omega) q) ?_
        refine s_pure (.int .i64 ((k : Int) + 1)) (fun _ q => q) ?_
        refine s_nil ?_
        exact p_lpN ⟨k + 1, i, ⟨rfl, rfl, rfl, rfl, rfl, rfl, rfl, rfl⟩, ⟨Eh, bxb1, s_w, s_y, (by first | exact ⟨by omega, by omega, hle.keepD (by assumption) (by assumption)⟩ | exact ⟨by omega, by omega, hle.keepN (by assumption) (by assumption)⟩ | exact ⟨by omega, by omega, hle.take2 (by assumption) (by assumption) (by assumption) (by assumption) (by first | exact .inl (by assumption) | exact .inr ⟨_, by assumption, by assumption⟩)⟩ | exact ⟨by omega, by omega, hle.keepL (by assumption) (by assumption) (by assumption) (by assumption)⟩)⟩, by omega⟩
    ·
      refine v_exit ?_
      refine p_seqX ?_
      refine p_lpX ?_
      refine p_blkX ?_
      refine p_seqN ?_
      refine v_seq ?_
      refine v_seq ?_
      refine v_ops ?_
      refine s_pure (.int .i64 i) (fun _ q => q) ?_
      refine s_pure (.bool (decide (i < 0))) (fun _ q => q) ?_
      refine s_nil ?_
      refine p_seqN ?_
      refine v_cond rfl (fun c55 => ?_) (fun c55 => ?_)
      ·
        refine v_seq ?_
        refine v_ops ?_
        refine s_pure w (fun _ q => q) ?_
        refine s_pure w (fun _ q => q) ?_
        refine s_nil ?_
        refine p_seqN ?_
        refine v_ret ?_
        refine p_seqR ?_
        refine p_blkR ?_
        refine p_lpR ?_
        refine p_blkR ?_
        refine p_ret [w] w (fun _ q => q) rfl ?_
        have ho : (arrOf n l a t) = o := by exact (arrOf_eq hn ha ht.1 (hdj.arr hn (by omega) hle (by omega))).symm
        exact ⟨w, by first | (rw [ho]; done) | rfl, sl_eq s_w (congrArg (fun o => o) ho).symm, fr_w.mono (by omega), Eh⟩
      ·
        refine v_skip ?_
        refine p_seqN ?_
        refine v_seq ?_
        refine v_ops ?_
        refine s_pure y (fun _ q => q) ?_
        refine s_pure (.int .i64 i) (fun _ q => q) ?_
        have hk56 : (i).toNat < d.length := (by first | omega | (simp; omega))
        obtain ⟨x57, hx57⟩ : ∃ x, d[(i).toNat]? = some x := ⟨_, List.getElem?_eq_getElem hk56⟩
        refine s_pure (.pointer (some ⟨sblk y, soff y + ((i).toNat) * 1, none⟩)) (fun _ q => s_y.idx (k := (i).toNat) (by omega) hk56 q) ?_
        refine s_stSl (k := (i).toNat) (j := 0) true (.bool true) [.bool true] s_y rfl rfl rfl rfl rfl hx57 (Nat.le_of_ble_eq_true rfl) rfl (all_cons rfl all_nil) (fun h58 mh58 sh58 s59 => ?_)
        have E60 := Eh.mod mh58 (fun b hb => by have := fr_y b hb; omega)
        refine s_nil ?_
        refine p_seqN ?_
        refine v_seq ?_
        refine v_ops ?_
        refine s_pure (.pointer (some ⟨b1, 1, none⟩)) (fun _ q => q) ?_
        have f61 := (bxb1.mod mh58 np_b1_y)
        refine s_load v_n_links (fun _ q => f61.load rfl q) ?_
        refine s_pure (.int .i64 (n.links.length : Int)) (fun _ q => f42.lenVC q) ?_
        refine s_pure (.int .i64 0) (fun _ q => q) ?_
        refine s_nil ?_
        refine p_seqN ?_
        refine v_block ?_
        have f63 := (s_w.mod mh58 (fun b hb hc => np_y_w b hc hb))
        refine v_loop3 (α := Nat) (β := List Int) (γ := Value) (fun k2 o2 w2 => [(1, v_l), (4, .pointer (some ⟨b1, 0, none⟩)), (9, w2), (10, y), (11, .int .i64 i), (72, v_n_links), (73, .int .i64 (n.links.length : Int)), (74, .int .i64 (k2 : Int))]) (fun k2 o2 w2 hh => Ext h hh ∧ Bx hh b1 [v_n_towers, v_n_links] 32 ∧ SlO hh w2 o2 ∧ Fr h.size w2 ∧ SlO hh y (d.set ((i).toNat) true) ∧ b1 ∉ blks w2 ∧ (∀ b ∈ blks y, b ∉ blks w2) ∧ k2 ≤ n.links.length ∧ ∃ u, DijR n l a t o2 (d.set i.toNat true) i.toNat u k2) (fun k2 o2 w2 => n.links.length - k2) 0 o w ⟨rfl, rfl, rfl, rfl, rfl, rfl, rfl, rfl⟩ ⟨E60, f61, (sl_eq f63 (by simp)), (fr_w.mono (by omega)), s59, np_b1_w, np_y_w, (by exact ⟨by omega, hdj.pick2 (by omega) hle (by omega)⟩)⟩ ?_
        rintro k2 o2 w2 R64 h62 ⟨Eh, bxb1, s_w2, fr_w2, s_y, np_b1_w2, np_y_w2, ⟨hk2, u, hr⟩⟩
        have zEh := Eh.size
        have f65 := s_n_towers.ext Eh
        have f66 := s_n_links.ext Eh
        have f67 := s_l.ext Eh
        have lbb1 := bxb1.lt
        have ltk_y := s_y.lt
        have lt_w2 := s_w2.lt
        have hol2 := hr.tms.len
        refine v_seq ?_
        refine v_ops ?_
        refine s_pure (.bool (decide ((k2 : Int) < (n.links.length : Int)))) (fun _ q => q) ?_
        refine s_nil ?_
        refine p_seqN ?_
        refine v_seq ?_
        refine v_cond rfl (fun c68 => ?_) (fun c68 => ?_)
        ·
          refine v_skip ?_
          refine p_seqN ?_
          refine v_seq ?_
          refine v_block ?_
          refine v_seq ?_
          refine v_ops ?_
          refine s_pure (.int .i64 (k2 : Int)) (fun _ q => q) ?_
          have hk69 : k2 < n.links.length := (by first | omega | (simp; omega))
          obtain ⟨x70, hx70⟩ : ∃ x, n.links[k2]? = some x := ⟨_, List.getElem?_eq_getElem hk69⟩
          refine s_pure (.pointer (some ⟨sblk v_n_links, soff v_n_links + k2 * 3, none⟩)) (fun _ q => f66.idx (k := k2) rfl hk69 q) ?_
          refine s_load (.agg #[.int .i64 x70.a, .int .i64 x70.b, .int .i64 x70.delay]) (fun _ q => f66.loadN hx70 rfl q) ?_
          refine s_new (fun h72 b71 hbb71 hzb71 eh72 bxb71 => ?_)
          have E73 := Eh.trans eh72
          have z74 := eh72.size
          have lbb71 := bxb71.lt
          refine s_pure (.int .i64 (k2 : Int)) (fun _ q => q) ?_
          refine s_stBx (.agg #[.int .i64 x70.a, .int .i64 x70.b, .int .i64 x70.delay]) [.int .i64 x70.a, .int .i64 x70.b, .int .i64 x70.delay] [.int .i64 x70.a, .int .i64 x70.b, .int .i64 x70.delay] bxb71 rfl rfl rfl rfl (by simp) (all_cons rfl (all_cons rfl (all_cons rfl all_nil))) rfl (fun h75 mh75 sh75 bxx76 => ?_)
          have E77 := E73.mod mh75 (fun b hb => by simp at hb; omega)
          refine s_nil ?_
          refine p_seqN ?_
          refine v_seq ?_
          refine v_ops ?_
          refine s_load (.agg #[.int .i64 x70.a, .int .i64 x70.b, .int .i64 x70.delay]) (fun _ q => bxx76.loadA rfl q) ?_
          refine s_pure (.int .i64 i) (fun _ q => q) ?_
          refine s_call [.agg #[.int .i64 x70.a, .int .i64 x70.b, .int .i64 x70.delay], .int .i64 i] rfl (spec_roOther_ok x70 i _ ) ?_
          rintro _ h78 ⟨rfl, eh78⟩
          have E79 := E77.trans eh78
          have z80 := eh78.size
          refine s_pure (.int .i64 (othr x70 i)) (fun _ q => q) ?_
          refine s_nil ?_
          refine p_seqN ?_
          refine v_seq ?_
          refine v_seq ?_
          refine v_ops ?_
          refine s_pure (.int .i64 (othr x70 i)) (fun _ q => q) ?_
          refine s_pure (.bool (decide ((othr x70 i) < 0))) (fun _ q => q) ?_
          refine s_nil ?_
          refine p_seqN ?_
          refine v_cond rfl (fun c81 => ?_) (fun c81 => ?_)
          ·
            refine v_exit ?_
            refine p_seqX ?_
            refine p_blkX ?_
            refine p_seqN ?_
            refine v_ops ?_
            refine s_pure (.int .i64 ((k2 : Int) + 1)) (fun _ q => ArithVC.mk (by omega) q) ?_
            refine s_pure (.int .i64 ((k2 : Int) + 1)) (fun _ q => q) ?_
            refine s_nil ?_
            have f82 := (((bxb1.ext eh72).mod mh75 (by simp; omega)).ext eh78)
            have f83 := (((s_w2.ext eh72).mod mh75 (fun b hb hc => by simp at hc; have := lt_w2 b hb; omega)).ext eh78)
            have f84 := (((s_y.ext eh72).mod mh75 (fun b hb hc => by simp at hc; have := ltk_y b hb; omega)).ext eh78)
            exact p_lpN ⟨k2 + 1, o2, w2, ⟨rfl, rfl, rfl, rfl, rfl, rfl, rfl, rfl⟩, ⟨E79, f82, (sl_eq f83 (by simp)), (fr_w2.mono (by omega)), f84, np_b1_w2, np_y_w2, (by first | exact ⟨by omega, _, hr.skip2 hn (by omega) (by assumption) (by assumption)⟩ | exact ⟨by omega, _, hr.set2 hf hn (by omega) (by omega) (by assumption : n.links[k2]? = some _) (by assumption) (by assumption : o2[i.toNat]? = some _) (by assumption) (by omega)⟩ | exact ⟨by omega, _, hr.keep2 hn (by omega) (by assumption : n.links[k2]? = some _) (by assumption) (by assumption : o2[i.toNat]? = some _) (by assumption) (by assumption) (by assumption)⟩)⟩, by omega⟩
          ·
            refine v_skip ?_
            refine p_seqN ?_
            refine v_seq ?_
            have f85 := (((bxb1.ext eh72).mod mh75 (by simp; omega)).ext eh78)
            refine v_draw (DrawVC.hold ([b1]) ?_)
            refine d_pureT v_l (fun _ q => q) ?_
            refine d_pureT (.int .i64 (k2 : Int)) (fun _ q => q) ?_
            refine d_pureT w2 (fun _ q => q) ?_
            refine d_pureT (.int .i64 i) (fun _ q => q) ?_
            have f86 := (((s_w2.ext eh72).mod mh75 (fun b hb hc => by simp at hc; have := lt_w2 b hb; omega)).ext eh78)
            have hk87 : (i).toNat < o2.length := (by first | omega | (simp; omega))
            obtain ⟨x88, hx88⟩ : ∃ x, o2[(i).toNat]? = some x := ⟨_, List.getElem?_eq_getElem hk87⟩
            refine d_pureT (.pointer (some ⟨sblk w2, soff w2 + ((i).toNat) * 1, none⟩)) (fun _ q => f86.idx (k := (i).toNat) (by omega) hk87 q) ?_
            refine d_loadT (.agg #[v_n_towers, v_n_links]) (fun _ q => f85.takeA (by simp) rfl q) ?_
            refine d_loadO (.int .i64 x88) (fun _ q => f86.load1 hx88 rfl q) ?_
            refine d_eff ?_
            have f89 := (((f65.ext eh72).mod mh75 (fun b hb hc => by simp at hc; have := lt_n_towers b hb; omega)).ext eh78)
            have f90 := (((f66.ext eh72).mod mh75 (fun b hb hc => by simp at hc; have := lt_n_links b hb; omega)).ext eh78)
            have f91 := (((f67.ext eh72).mod mh75 (fun b hb hc => by simp at hc; have := lt_l b hb; omega)).ext eh78)
            refine s_call [.agg #[v_n_towers, v_n_links], v_l, .int .i64 (k2 : Int), .int .i64 x88] rfl (spec_roOver_ok n v_n_towers v_n_links v_l l (k2 : Int) x88 _ f89 f90 f91 m hn hf (by omega) (hr.val hn (by assumption))) ?_
            rintro _ h92 ⟨rfl, eh92⟩
            have E93 := E79.trans eh92
            have z94 := eh92.size
            have G95 := eh92
            refine s_nil ⟨fun hl => (by cases hl), ?_⟩
            refine d_pureT (.int .i64 (over l (k2 : Int) (lk n (k2 : Int)) x88)) (fun _ q => q) ?_
            refine d_done ?_
            refine p_seqN ?_
            refine v_seq ?_
            refine v_ops ?_
            refine s_pure w2 (fun _ q => q) ?_
            refine s_pure (.int .i64 (othr x70 i)) (fun _ q => q) ?_
            have f96 := (f86.ext eh92)
            have hk97 : ((othr x70 i)).toNat < o2.length := (by have := othr_bd (hn.at hx70) i; omega)
            obtain ⟨x98, hx98⟩ : ∃ x, o2[((othr x70 i)).toNat]? = some x := ⟨_, List.getElem?_eq_getElem hk97⟩
            refine s_pure (.pointer (some ⟨sblk w2, soff w2 + (((othr x70 i)).toNat) * 1, none⟩)) (fun _ q => f96.idx (k := ((othr x70 i)).toNat) (by omega) hk97 q) ?_
            refine s_load (.int .i64 x98) (fun _ q => f96.load1 hx98 rfl q) ?_
            refine s_pure (.bool (decide (x98 < 0))) (fun _ q => q) ?_
            refine s_pure (.bool (decide (x98 < 0))) (fun _ q => q) ?_
            refine s_splitT rfl (fun c99 => ?_) (fun c99 => ?_)
            ·
              refine s_pass rfl ?_
              refine s_pass rfl ?_
              refine s_pass rfl ?_
              refine s_pass rfl ?_
              refine s_pass rfl ?_
              refine s_pass rfl ?_
              refine s_pure (.bool true) (fun _ q => q) ?_
              refine s_nil ?_
              refine p_seqN ?_
              refine v_condY rfl rfl ?_
              refine v_ops ?_
              refine s_pure w2 (fun _ q => q) ?_
              refine s_pure (.int .i64 (othr x70 i)) (fun _ q => q) ?_
              refine s_pure (.int .i64 (over l (k2 : Int) (lk n (k2 : Int)) x88)) (fun _ q => q) ?_
              refine s_pure (.pointer (some ⟨sblk w2, soff w2 + (((othr x70 i)).toNat) * 1, none⟩)) (fun _ q => f96.idx (k := ((othr x70 i)).toNat) (by omega) hk97 q) ?_
              refine s_stSl (k := ((othr x70 i)).toNat) (j := 0) (over l (k2 : Int) (lk n (k2 : Int)) x88) (.int .i64 (over l (k2 : Int) (lk n (k2 : Int)) x88)) [.int .i64 (over l (k2 : Int) (lk n (k2 : Int)) x88)] f96 rfl rfl rfl rfl rfl hx98 (Nat.le_of_ble_eq_true rfl) rfl (all_cons rfl all_nil) (fun h100 mh100 sh100 s101 => ?_)
              have E102 := E93.mod mh100 (fun b hb => by have := fr_w2 b hb; omega)
              refine s_nil ?_
              refine p_blkN ?_
              refine p_seqN ?_
              refine v_ops ?_
              refine s_pure (.int .i64 ((k2 : Int) + 1)) (fun _ q => ArithVC.mk (by omega) q) ?_
              refine s_pure (.int .i64 ((k2 : Int) + 1)) (fun _ q => q) ?_
              refine s_nil ?_
              have f103 := ((f85.ext eh92).mod mh100 np_b1_w2)
              have f104 := (((((s_y.ext eh72).mod mh75 (fun b hb hc => by simp at hc; have := ltk_y b hb; omega)).ext eh78).ext eh92).mod mh100 np_y_w2)
              exact p_lpN ⟨k2 + 1, (o2.set (((othr x70 i)).toNat) (over l (k2 : Int) (lk n (k2 : Int)) x88)), w2, ⟨rfl, rfl, rfl, rfl, rfl, rfl, rfl, rfl⟩, ⟨E102, f103, (sl_eq s101 (by simp)), (fr_w2.mono (by omega)), f104, np_b1_w2, np_y_w2, (by first | exact ⟨by omega, _, hr.skip2 hn (by omega) (by assumption) (by assumption)⟩ | exact ⟨by omega, _, hr.set2 hf hn (by omega) (by omega) (by assumption : n.links[k2]? = some _) (by assumption) (by assumption : o2[i.toNat]? = some _) (by assumption) (by omega)⟩ | exact ⟨by omega, _, hr.keep2 hn (by omega) (by assumption : n.links[k2]? = some _) (by assumption) (by assumption : o2[i.toNat]? = some _) (by assumption) (by assumption) (by assumption)⟩)⟩, by omega⟩
            ·
              refine s_run rfl ?_
              refine s_pure (.int .i64 (over l (k2 : Int) (lk n (k2 : Int)) x88)) (fun _ q => q) ?_
              refine s_run rfl ?_
              refine s_pure w2 (fun _ q => q) ?_
              refine s_run rfl ?_
              refine s_pure (.int .i64 (othr x70 i)) (fun _ q => q) ?_
              refine s_run rfl ?_
              refine s_pure (.pointer (some ⟨sblk w2, soff w2 + (((othr x70 i)).toNat) * 1, none⟩)) (fun _ q => f96.idx (k := ((othr x70 i)).toNat) (by omega) hk97 q) ?_
              refine s_run rfl ?_
              refine s_load (.int .i64 x98) (fun _ q => f96.load1 hx98 rfl q) ?_
              refine s_run rfl ?_
              refine s_pure (.bool (decide ((over l (k2 : Int) (lk n (k2 : Int)) x88) < x98))) (fun _ q => q) ?_
              refine s_pure (.bool (decide ((over l (k2 : Int) (lk n (k2 : Int)) x88) < x98))) (fun _ q => q) ?_
              refine s_nil ?_
              refine p_seqN ?_
              refine v_cond rfl (fun c105 => ?_) (fun c105 => ?_)
              ·
                refine v_ops ?_
                refine s_pure w2 (fun _ q => q) ?_
                refine s_pure (.int .i64 (othr x70 i)) (fun _ q => q) ?_
                refine s_pure (.int .i64 (over l (k2 : Int) (lk n (k2 : Int)) x88)) (fun _ q => q) ?_
                refine s_pure (.pointer (some ⟨sblk w2, soff w2 + (((othr x70 i)).toNat) * 1, none⟩)) (fun _ q => f96.idx (k := ((othr x70 i)).toNat) (by omega) hk97 q) ?_
                refine s_stSl (k := ((othr x70 i)).toNat) (j := 0) (over l (k2 : Int) (lk n (k2 : Int)) x88) (.int .i64 (over l (k2 : Int) (lk n (k2 : Int)) x88)) [.int .i64 (over l (k2 : Int) (lk n (k2 : Int)) x88)] f96 rfl rfl rfl rfl rfl hx98 (Nat.le_of_ble_eq_true rfl) rfl (all_cons rfl all_nil) (fun h106 mh106 sh106 s107 => ?_)
                have E108 := E93.mod mh106 (fun b hb => by have := fr_w2 b hb; omega)
                refine s_nil ?_
                refine p_blkN ?_
                refine p_seqN ?_
                refine v_ops ?_
                refine s_pure (.int .i64 ((k2 : Int) + 1)) (fun _ q => ArithVC.mk (by omega) q) ?_
                refine s_pure (.int .i64 ((k2 : Int) + 1)) (fun _ q => q) ?_
                refine s_nil ?_
                have f109 := ((f85.ext eh92).mod mh106 np_b1_w2)
                have f110 := (((((s_y.ext eh72).mod mh75 (fun b hb hc => by simp at hc; have := ltk_y b hb; omega)).ext eh78).ext eh92).mod mh106 np_y_w2)
                exact p_lpN ⟨k2 + 1, (o2.set (((othr x70 i)).toNat) (over l (k2 : Int) (lk n (k2 : Int)) x88)), w2, ⟨rfl, rfl, rfl, rfl, rfl, rfl, rfl, rfl⟩, ⟨E108, f109, (sl_eq s107 (by simp)), (fr_w2.mono (by omega)), f110, np_b1_w2, np_y_w2, (by first | exact ⟨by omega, _, hr.skip2 hn (by omega) (by assumption) (by assumption)⟩ | exact ⟨by omega, _, hr.set2 hf hn (by omega) (by omega) (by assumption : n.links[k2]? = some _) (by assumption) (by assumption : o2[i.toNat]? = some _) (by assumption) (by omega)⟩ | exact ⟨by omega, _, hr.keep2 hn (by omega) (by assumption : n.links[k2]? = some _) (by assumption) (by assumption : o2[i.toNat]? = some _) (by assumption) (by assumption) (by assumption)⟩)⟩, by omega⟩
              ·
                refine v_skip ?_
                refine p_blkN ?_
                refine p_seqN ?_
                refine v_ops ?_
                refine s_pure (.int .i64 ((k2 : Int) + 1)) (fun _ q => ArithVC.mk (by omega) q) ?_
                refine s_pure (.int .i64 ((k2 : Int) + 1)) (fun _ q => q) ?_
                refine s_nil ?_
                have f111 := (f85.ext eh92)
                have f112 := ((((s_y.ext eh72).mod mh75 (fun b hb hc => by simp at hc; have := ltk_y b hb; omega)).ext eh78).ext eh92)
                exact p_lpN ⟨k2 + 1, o2, w2, ⟨rfl, rfl, rfl, rfl, rfl, rfl, rfl, rfl⟩, ⟨E93, f111, (sl_eq f96 (by simp)), (fr_w2.mono (by omega)), f112, np_b1_w2, np_y_w2, (by first | exact ⟨by omega, _, hr.skip2 hn (by omega) (by assumption) (by assumption)⟩ | exact ⟨by omega, _, hr.set2 hf hn (by omega) (by omega) (by assumption : n.links[k2]? = some _) (by assumption) (by assumption : o2[i.toNat]? = some _) (by assumption) (by omega)⟩ | exact ⟨by omega, _, hr.keep2 hn (by omega) (by assumption : n.links[k2]? = some _) (by assumption) (by assumption : o2[i.toNat]? = some _) (by assumption) (by assumption) (by assumption)⟩)⟩, by omega⟩
        ·
          refine v_exit ?_
          refine p_seqX ?_
          refine p_lpX ?_
          refine p_blkX ?_
          refine p_blkN ?_
          exact p_lpN ⟨o2, (d.set ((i).toNat) true), w2, y, ⟨rfl, rfl, rfl, rfl⟩, ⟨Eh, bxb1, (sl_eq s_w2 (by simp)), (fr_w2.mono (by omega)), (sl_eq s_y (by simp)), (fr_y.mono (by omega)), np_b1_w2, np_y_w2, np_b1_y, (by exact hr.ends (by omega))⟩, by exact undone_set (hle.yes (by omega)).2.1⟩

end Go.Proofs.Ythagdkmalchhgaa
