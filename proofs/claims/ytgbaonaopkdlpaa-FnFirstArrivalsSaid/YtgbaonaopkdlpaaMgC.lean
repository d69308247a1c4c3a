/- Ro8, Del, Ro9. Condition: none. -/
import Derived.Test.YtgbaonaopkdlpaaMgB
import Derived.Test.YtgbaonaopkdlpaaStep2
/- Arrivals. Condition: none. Printed in part by a program. -/
namespace Go.Proofs.Ytgbaonaopkdlpaa
open Go.Vc
set_option linter.all false

theorem ends_arr (x : LinkD) (e : Nat) (he : e < 2) {K : Value → Prop} (q : K (.agg #[.int .i64 (end1 x e), .int .i64 (end2 x e)])) : ArrVC 2 2 (some 2) (.agg #[.int .i64 x.a, .int .i64 x.b, .int .i64 x.b, .int .i64 x.a]) (.int .i64 (e : Int)) K := by
  have : e = 0 ∨ e = 1 := by omega
  rcases this with rfl | rfl
  · exact ⟨_, _, 0, rfl, rfl, by decide, q⟩
  · exact ⟨_, _, 1, rfl, rfl, by decide, q⟩
theorem end_bd {m : Nat} {x : LinkD} (h : LinkOk m x) (e : Nat) : (0 ≤ end1 x e ∧ end1 x e < (m : Int)) ∧ 0 ≤ end2 x e ∧ end2 x e < (m : Int) := by
 unfold end1 end2; split <;> omega
def mBF (o : List Int) (g : Bool) : Nat := 2 * potO o + g.toNat
theorem BF.dec {n : NetP} {l : List FogD} {a t : Int} {out o : List Int} {g g' : Bool} {k : Nat} (h : BF n l a t out g' k (potO o)) (hg : g = true) : mBF out g' < mBF o g := by
  have := h.pot
  subst hg
  unfold mBF
  cases g' <;> simp at this ⊢ <;> omega
theorem half_neg {l : List FogD} {out : List Int} {k : Nat} {x : LinkD} {e : Nat} {u : Int} (h0 : 0 ≤ end1 x e) (hu : out[(end1 x e).toNat]? = some u) (hn : u < 0) : Half l out k x e := by
 intro h
 have := gI_get hu
 rw [show (((end1 x e).toNat : Nat) : Int) = end1 x e by omega] at this
 omega
theorem half_ok {n : NetP} {l : List FogD} {out : List Int} {k : Nat} {x : LinkD} {e : Nat} {u w : Int} (hx : n.links[k]? = some x) (h0 : 0 ≤ end1 x e) (h1 : 0 ≤ end2 x e) (hu : out[(end1 x e).toNat]? = some u) (hw : out[(end2 x e).toNat]? = some w) (hp : 0 ≤ w) (hb : w ≤ over l (k : Int) (lk n (k : Int)) u) : Half l out k x e := by
 intro h
 have g1 := gI_get hu
 have g2 := gI_get hw
 rw [show (((end1 x e).toNat : Nat) : Int) = end1 x e by omega] at g1
 rw [show (((end2 x e).toNat : Nat) : Int) = end2 x e by omega] at g2
 rw [g1, g2]
 rw [lk_get hx] at hb
 exact ⟨hp, hb⟩
theorem BFh.set2 {n : NetP} {l : List FogD} {a t : Int} {m : Nat} {out : List Int} {grown : Bool} {k p0 e : Nat} {x : LinkD} (hf : FogsOk m l) (hn : NetOk n) (ha : 0 ≤ a) (h : BFh n l a t out grown k p0 x e) (hx : n.links[k]? = some x)
  {u w : Int} (h0 : 0 ≤ end1 x e) (h1 : 0 ≤ end2 x e) (hu : out[(end1 x e).toNat]? = some u) (hu0 : 0 ≤ u) (hw : out[(end2 x e).toNat]? = some w) (hb : w < 0 ∨ over l (k : Int) (lk n (k : Int)) u < w) : BFh n l a t (out.set (end2 x e).toNat (over l (k : Int) (lk n (k : Int)) u)) true k p0 x (e + 1) := by
 rw [lk_get hx] at *
 exact BFh.set hf hn ha h hx (by omega) (by omega) hu hu0 hw hb
theorem fillM {N k : Nat} {o : List Int} (ho : o = List.replicate k (-1) ++ List.replicate (N - k) 0) (h : k < N) : o.set k (-1) = List.replicate (k + 1) (-1) ++ List.replicate (N - (k + 1)) 0 := by
 rw [ho, List.set_append_right _ _ (by simp), List.length_replicate, Nat.sub_self, show N - k = N - (k + 1) + 1 by omega, List.replicate_succ, List.set_cons_zero, List.replicate_succ']
 simp
theorem Bnd.at {n : NetP} (hn : NetOk n) {a t : Int} {l : List FogD} {out : List Int} (hT : Tms n l a t out) (h : Bnd out) {i : Nat} {v : Int} (hv : out[i]? = some v) : v ≤ 10900 := h.top hn hT.len v (List.mem_of_getElem? hv)
theorem st_wide {m q : Nat} {l : List FogD} (hf : FogsOk m l) {k t : Int} {x : LinkD} (ht : 0 ≤ t ∧ t ≤ 1000000) (h : LinkOk q x) : -9223372036854775808 ≤ stF l k t x.delay + x.delay ∧ stF l k t x.delay + x.delay ≤ 9223372036854775807 := by
 have h1 := stF_le hf k x.delay t
 have h2 := stF_ge l k x.delay t
 omega
theorem impl_goOver_ok (n : NetP) (v_n_towers : Value) (v_n_links : Value) (v_l : Value) (l : List FogD) (link : Int) (t : Int) (h : Heap) (s_n_towers : Sl h v_n_towers n.towers) (s_n_links : Sl h v_n_links n.links) (s_l : Sl h v_l l) (m : Nat) (hn : NetOk n) (hf : FogsOk m l) (hk : 0 ≤ link ∧ link ≤ (n.links.length : Int) - 1) (ht : 0 ≤ t ∧ t ≤ 1000000) : Cn f_impl_goOver [.agg #[v_n_towers, v_n_links], v_l, .int .i64 link, .int .i64 t] h fun v h' => v = .int .i64 (over l link (lk n link) t) ∧ Ext h h' := by
 have l63_n_towers := s_n_towers.len63
 have l63_n_links := s_n_links.len63
 have l63_l := s_l.len63
 refine calls_of r_impl_goOver ?_
 refine v_seq <| v_ops ?_
 refine s_box [v_n_towers, v_n_links] rfl (fun h2 b1 hbb1 hzb1 eh2 bxb1 => ?_)
 have E3 := (Ext.refl h).trans eh2
 have z4 := eh2.size
 have lbb1 := bxb1.lt
 refine s_pq (.int .i64 0) <| s_nil <| p_seqN <| v_seq <| v_ops <| s_pq (.pointer (some ⟨b1, 1, none⟩)) <| s_load v_n_links (fun _ q => bxb1.load rfl q) <| s_pq (.int .i64 link) ?_
 have f5 := (s_n_links.ext eh2)
 have hk6 : (link).toNat < n.links.length := (by first | omega | (simp; omega))
 obtain ⟨x7, hx7⟩ : ∃ x, n.links[(link).toNat]? = some x := ⟨_, List.getElem?_eq_getElem hk6⟩
 refine s_pure (.pointer (some ⟨sblk v_n_links, soff v_n_links + ((link).toNat) * 3, none⟩)) (fun _ q => f5.idx (k := (link).toNat) (by omega) hk6 q) <| s_pq (.pointer (some ⟨sblk v_n_links, soff v_n_links + ((link).toNat) * 3 + 2, none⟩)) <| s_load (.int .i64 x7.delay) (fun _ q => f5.load hx7 (j := 2) rfl rfl q) <| s_pq (.int .i64 x7.delay) <| s_nil <| p_seqN <| v_seq <| v_ops <| s_pq v_l <| s_pq (.int .i64 link) <| s_pq (.int .i64 t) <| s_pq (.int .i64 x7.delay) ?_
 have f8 := (s_l.ext eh2)
 refine s_call [v_l, .int .i64 link, .int .i64 t, .int .i64 x7.delay] rfl (impl_startAfter_ok v_l l link t x7.delay _ f8 m hf (by omega) (by have := hn.at (by assumption : n.links[link.toNat]? = some _); omega)) ?_
 rintro _ h9 ⟨rfl, eh9⟩
 have E10 := E3.trans eh9
 have z11 := eh9.size
 refine s_pq (.int .i64 x7.delay) <| s_pure (.int .i64 ((stF l link t x7.delay) + x7.delay)) (fun _ q => ArithVC.mk (st_wide hf ht (hn.at (by assumption : n.links[link.toNat]? = some _))) q) <| s_pq (.int .i64 ((stF l link t x7.delay) + x7.delay)) <| s_nil <| p_seqN <| v_ret <| p_ret [.int .i64 ((stF l link t x7.delay) + x7.delay)] (.int .i64 ((stF l link t x7.delay) + x7.delay)) (fun _ q => q) rfl ?_
 have ho : (over l link (lk n link) t) = ((stF l link t x7.delay) + x7.delay) := by rw [over, Option.some.inj ((lk_at hk.1 hk.2).symm.trans (by assumption : n.links[link.toNat]? = some _))]
 exact ⟨by first | (rw [ho]; done) | rfl, E10⟩

theorem spec_roOver_ok (n : NetP) (v_n_towers : Value) (v_n_links : Value) (v_l : Value) (l : List FogD) (link : Int) (t : Int) (h : Heap) (s_n_towers : Sl h v_n_towers n.towers) (s_n_links : Sl h v_n_links n.links) (s_l : Sl h v_l l) (m : Nat) (hn : NetOk n) (hf : FogsOk m l) (hk : 0 ≤ link ∧ link ≤ (n.links.length : Int) - 1) (ht : 0 ≤ t ∧ t ≤ 1000000) : Cn f_spec_roOver [.agg #[v_n_towers, v_n_links], v_l, .int .i64 link, .int .i64 t] h fun v h' => v = .int .i64 (over l link (lk n link) t) ∧ Ext h h' := by
 have l63_n_towers := s_n_towers.len63
 have l63_n_links := s_n_links.len63
 have l63_l := s_l.len63
 refine calls_of r_spec_roOver ?_
 refine v_seq <| v_ops ?_
 refine s_box [v_n_towers, v_n_links] rfl (fun h2 b1 hbb1 hzb1 eh2 bxb1 => ?_)
 have E3 := (Ext.refl h).trans eh2
 have z4 := eh2.size
 have lbb1 := bxb1.lt
 refine s_pq (.int .i64 0) <| s_nil <| p_seqN <| v_seq <| v_ops <| s_pq (.pointer (some ⟨b1, 1, none⟩)) <| s_load v_n_links (fun _ q => bxb1.load rfl q) <| s_pq (.int .i64 link) ?_
 have f5 := (s_n_links.ext eh2)
 have hk6 : (link).toNat < n.links.length := (by first | omega | (simp; omega))
 obtain ⟨x7, hx7⟩ : ∃ x, n.links[(link).toNat]? = some x := ⟨_, List.getElem?_eq_getElem hk6⟩
 refine s_pure (.pointer (some ⟨sblk v_n_links, soff v_n_links + ((link).toNat) * 3, none⟩)) (fun _ q => f5.idx (k := (link).toNat) (by omega) hk6 q) <| s_pq (.pointer (some ⟨sblk v_n_links, soff v_n_links + ((link).toNat) * 3 + 2, none⟩)) <| s_load (.int .i64 x7.delay) (fun _ q => f5.load hx7 (j := 2) rfl rfl q) <| s_pq (.int .i64 x7.delay) <| s_nil <| p_seqN <| v_seq <| v_ops <| s_pq v_l <| s_pq (.int .i64 link) <| s_pq (.int .i64 t) <| s_pq (.int .i64 x7.delay) ?_
 have f8 := (s_l.ext eh2)
 refine s_call [v_l, .int .i64 link, .int .i64 t, .int .i64 x7.delay] rfl (spec_fgStart_ok v_l l link t x7.delay _ f8 m hf (by omega) (by have := hn.at (by assumption : n.links[link.toNat]? = some _); omega)) ?_
 rintro _ h9 ⟨rfl, eh9⟩
 have E10 := E3.trans eh9
 have z11 := eh9.size
 refine s_pq (.int .i64 x7.delay) <| s_pure (.int .i64 ((stF l link t x7.delay) + x7.delay)) (fun _ q => ArithVC.mk (st_wide hf ht (hn.at (by assumption : n.links[link.toNat]? = some _))) q) <| s_pq (.int .i64 ((stF l link t x7.delay) + x7.delay)) <| s_nil <| p_seqN <| v_ret <| p_ret [.int .i64 ((stF l link t x7.delay) + x7.delay)] (.int .i64 ((stF l link t x7.delay) + x7.delay)) (fun _ q => q) rfl ?_
 have ho : (over l link (lk n link) t) = ((stF l link t x7.delay) + x7.delay) := by rw [over, Option.some.inj ((lk_at hk.1 hk.2).symm.trans (by assumption : n.links[link.toNat]? = some _))]
 exact ⟨by first | (rw [ho]; done) | rfl, E10⟩


theorem fillAll {N k : Nat} {o : List Int} (ho : o = List.replicate k (-1) ++ List.replicate (N - k) 0) (h1 : k ≤ N) (h2 : N ≤ k) : o = List.replicate N (-1) := by
 obtain rfl : k = N := by omega
 rw [ho]; simp
theorem Least.take2 {out : List Int} {done : List Bool} {k : Nat} {i v : Int} {b : Bool} (h : Least out done k i) (hd : done[k]? = some b) (hb : ¬ b = true) (hv : out[k]? = some v) (h0 : v ≥ 0) (hl : i < 0 ∨ ∃ u, out[i.toNat]? = some u ∧ v < u) : Least out done (k + 1) (k : Int) := by
  have hb' : b = false := by simpa using hb
  subst hb'
  have g1 := gI_get hv
  refine h.take hd (by omega) ?_
  by_cases hi : i < 0
  · exact .inl hi
  · rcases hl with hl | ⟨u, hu, hlt⟩
    · exact absurd hl hi
    · have g2 := gI_get hu
      rw [show ((i.toNat : Nat) : Int) = i by omega] at g2
      right; omega
theorem Least.keepD {out : List Int} {done : List Bool} {k : Nat} {i : Int} {b : Bool} (h : Least out done k i) (hd : done[k]? = some b) (hb : b = true) : Least out done (k + 1) i := h.keep (.inl (hb ▸ hd))
theorem Least.keepN {out : List Int} {done : List Bool} {k : Nat} {i v : Int} (h : Least out done k i) (hv : out[k]? = some v) (hn : ¬ v ≥ 0) : Least out done (k + 1) i := h.keep (.inr (.inl (by have := gI_get hv; omega)))
theorem Least.keepL {out : List Int} {done : List Bool} {k : Nat} {i v u : Int} (h : Least out done k i) (hv : out[k]? = some v) (hi : ¬ i < 0) (hu : out[i.toNat]? = some u) (hl : ¬ v < u) : Least out done (k + 1) i := by
 have g1 := gI_get hv
 have g2 := gI_get hu
 rw [show ((i.toNat : Nat) : Int) = i by omega] at g2
 exact h.keep (.inr (.inr (by omega)))
theorem Dij.pick2 {n : NetP} {l : List FogD} {a t i : Int} {out : List Int} {done : List Bool} (h : Dij n l a t out done) {k : Nat} (hk : n.towers.length ≤ k) (hl : Least out done k i) (hi : 0 ≤ i) : ∃ u, DijR n l a t out (done.set i.toNat true) i.toNat u 0 := by
 have e : ((i.toNat : Nat) : Int) = i := by omega
 have hy := hl.yes hi
 have hd := h.tms.len
 have hdl := h.len
 have hlt := (List.getElem?_eq_some_iff.1 hy.2.1).1
 exact ⟨_, h.pick hk (i := i.toNat) (by rw [e]; exact hl) (List.getElem?_eq_getElem (by omega))⟩
theorem DijR.skip2 {n : NetP} {l : List FogD} {a t i : Int} {out : List Int} {done : List Bool} {u : Int} {m : Nat} {x : LinkD} (hn : NetOk n) (h : DijR n l a t out done i.toNat u m) (hi : 0 ≤ i) (hx : n.links[m]? = some x) (ho : othr x i < 0) : DijR n l a t out done i.toNat u (m + 1) :=
 h.skip hn hx (by rw [show ((i.toNat : Nat) : Int) = i by omega]; exact ho)
theorem DijR.keep2 {n : NetP} {l : List FogD} {a t i : Int} {out : List Int} {done : List Bool} {u v w : Int} {m : Nat} {x : LinkD} (hn : NetOk n) (h : DijR n l a t out done i.toNat u m) (hi : 0 ≤ i) (hx : n.links[m]? = some x) (ho : ¬ othr x i < 0) (hv : out[i.toNat]? = some v) (hw : out[(othr x i).toNat]? = some w) (h0 : ¬ w < 0) (hb : ¬ over l (m : Int) (lk n (m : Int)) v < w) : DijR n l a t out done i.toNat u (m + 1) := by
 obtain rfl := Option.some.inj (h.at_.symm.trans hv)
 rw [lk_get hx] at hb
 exact h.keep hn hx (j := (othr x i).toNat) (by rw [show ((i.toNat : Nat) : Int) = i by omega]; omega) hw (by omega) (by omega)
theorem DijR.set2 {n : NetP} {l : List FogD} {a t i : Int} {q : Nat} {out : List Int} {done : List Bool} {u v w : Int} {m : Nat} {x : LinkD} (hf : FogsOk q l) (hn : NetOk n) (ha : 0 ≤ a) (h : DijR n l a t out done i.toNat u m) (hi : 0 ≤ i) (hx : n.links[m]? = some x) (ho : ¬ othr x i < 0) (hv : out[i.toNat]? = some v) (hw : out[(othr x i).toNat]? = some w) (hb : w < 0 ∨ over l (m : Int) (lk n (m : Int)) v < w) : DijR n l a t (out.set (othr x i).toNat (over l (m : Int) (lk n (m : Int)) v)) done i.toNat u (m + 1) := by
 obtain rfl := Option.some.inj (h.at_.symm.trans hv)
 rw [lk_get hx] at hb ⊢
 exact h.set hf hn ha hx (j := (othr x i).toNat) (by rw [show ((i.toNat : Nat) : Int) = i by omega]; omega) hw (by omega)
theorem DijR.val {n : NetP} {l : List FogD} {a t : Int} {i : Nat} {out : List Int} {done : List Bool} {u v : Int} {m : Nat} (hn : NetOk n) (h : DijR n l a t out done i u m) (hv : out[i]? = some v) : 0 ≤ v ∧ v ≤ 1000000 := by
 obtain rfl := Option.some.inj (h.at_.symm.trans hv)
 have := h.bnd.at hn h.tms hv
 exact ⟨h.pos, by omega⟩
theorem BF.done_all {n : NetP} {l : List FogD} {a t : Int} {out : List Int} {g : Bool} {k p0 : Nat} (h : BF n l a t out g k p0) (hg : g = false) (hk : n.links.length ≤ k) : DoneTo n l out n.links.length := fun j x hj hx => h.done hg j x (by omega) hx

set_option maxRecDepth 10000 in
set_option maxHeartbeats 4000000 in
theorem impl_arrivals_ok (n : NetP) (v_n_towers : Value) (v_n_links : Value) (v_l : Value) (l : List FogD) (a : Int) (t : Int) (h : Heap) (s_n_towers : Sl h v_n_towers n.towers) (s_n_links : Sl h v_n_links n.links) (s_l : Sl h v_l l) (m : Nat) (hn : NetOk n) (hf : FogsOk m l) (ha : 0 ≤ a ∧ a ≤ (n.towers.length : Int) - 1) (ht : 0 ≤ t ∧ t ≤ 10000) : Cn f_impl_arrivals [.agg #[v_n_towers, v_n_links], v_l, .int .i64 a, .int .i64 t] h fun v h' => ∃ r0 : Value, v = r0 ∧ SlO h' r0 (arrOf n l a t) ∧ Fr h.size r0 ∧ Ext h h' := by
 have lt_n_towers := s_n_towers.lt
 have l63_n_towers := s_n_towers.len63
 have lt_n_links := s_n_links.lt
 have l63_n_links := s_n_links.len63
 have lt_l := s_l.lt
 have l63_l := s_l.len63
 have hst := arr_start (l := l) ha ht
 have ht2 := hn.t2
 refine calls_of r_impl_arrivals ?_
 refine v_seq <| v_ops ?_
 refine s_box [v_n_towers, v_n_links] rfl (fun h2 b1 hbb1 hzb1 eh2 bxb1 => ?_)
 have E3 := (Ext.refl h).trans eh2
 have z4 := eh2.size
 have lbb1 := bxb1.lt
 refine s_pq (.slice none 0 0) <| s_nil <| p_seqN <| v_seq <| v_ops <| s_pq (.pointer (some ⟨b1, 0, none⟩)) <| s_load v_n_towers (fun _ q => bxb1.load rfl q) <| s_pure (.int .i64 (n.towers.length : Int)) (fun _ q => s_n_towers.lenVC q) ?_
 refine s_mk (α := Int) n.towers.length 0 rfl rfl rfl rfl rfl rfl (by first | (simp [maxLen]; done) | (simp [maxLen]; omega)) (by omega) (fun r5 h6 eh6 zh6 s_r5 fr_r5 => ?_)
 have E7 := E3.trans eh6
 have z8 := eh6.size
 refine s_pq r5 <| s_nil <| p_seqN <| v_seq <| v_seq <| v_ops <| s_pq r5 <| s_pure (.int .i64 ((List.replicate n.towers.length 0).length : Int)) (fun _ q => s_r5.lenVC q) <| s_pq (.int .i64 0) <| s_nil <| p_seqN <| v_block ?_
 have f10 := (bxb1.ext eh6)
 refine v_loop3 (α := Nat) (β := List Int) (γ := Value) (fun k o w => [(1, v_l), (2, .int .i64 a), (3, .int .i64 t), (4, .pointer (some ⟨b1, 0, none⟩)), (9, w), (24, .int .i64 ((List.replicate n.towers.length 0).length : Int)), (25, .int .i64 (k : Int))]) (fun k o w hh => Ext h hh ∧ Bx hh b1 [v_n_towers, v_n_links] 26 ∧ SlO hh w o ∧ Fr h.size w ∧ b1 ∉ blks w ∧ k ≤ n.towers.length ∧ o = List.replicate k (-1) ++ List.replicate (n.towers.length - k) 0) (fun k o w => n.towers.length - k) 0 (List.replicate n.towers.length 0) r5 ⟨rfl, rfl, rfl, rfl, rfl, rfl, rfl⟩ ⟨E7, f10, (sl_eq s_r5 (by simp)), (fr_r5.mono (by omega)), (fun hc => by have := fr_r5 _ hc; omega), (by simp)⟩ ?_
 rintro k o w R11 h9 ⟨Eh, bxb1, s_w, fr_w, np_b1_w, ⟨hk, ho⟩⟩
 have zEh := Eh.size
 have lbb1 := bxb1.lt
 have hl : o.length = n.towers.length := by rw [ho]; simp; omega
 have hr : (List.replicate n.towers.length (0 : Int)).length = n.towers.length := by simp
 refine v_seq <| v_ops <| s_pure (.bool (decide ((k : Int) < ((List.replicate n.towers.length 0).length : Int)))) (fun _ q => q) <| s_nil <| p_seqN <| v_seq ?_
 refine v_cond rfl (fun c16 => ?_) (fun c16 => ?_)
 ·
  refine v_skip <| p_seqN <| v_seq <| v_block <| v_seq <| v_ops <| s_pq (.int .i64 (k : Int)) <| s_pq (.int .i64 (k : Int)) <| s_nil <| p_seqN <| v_ops <| s_pq w <| s_pq (.int .i64 (k : Int)) ?_
  have hk17 : k < o.length := (by first | omega | (simp; omega))
  obtain ⟨x18, hx18⟩ : ∃ x, o[k]? = some x := ⟨_, List.getElem?_eq_getElem hk17⟩
  refine s_pure (.pointer (some ⟨sblk w, soff w + k * 1, none⟩)) (fun _ q => s_w.idx (k := k) rfl hk17 q) ?_
  refine s_stSl (k := k) (j := 0) (-1) (.int .i64 (-1)) [.int .i64 (-1)] s_w rfl rfl rfl rfl rfl hx18 (Nat.le_of_ble_eq_true rfl) rfl (all_cons rfl all_nil) (fun h19 mh19 sh19 s20 => ?_)
  have E21 := Eh.mod mh19 (fun b hb => by have := fr_w b hb; omega)
  refine s_nil <| p_blkN <| p_seqN <| v_ops <| s_pure (.int .i64 ((k : Int) + 1)) (fun _ q => ArithVC.mk (by omega) q) <| s_pq (.int .i64 ((k : Int) + 1)) <| s_nil ?_
  have f22 := (bxb1.mod mh19 np_b1_w)
  exact p_lpN ⟨k + 1, (o.set k (-1)), w, ⟨rfl, rfl, rfl, rfl, rfl, rfl, rfl⟩, ⟨E21, f22, (sl_eq s20 (by simp)), (fr_w.mono (by omega)), np_b1_w, (by exact ⟨by omega, fillM ho (by omega)⟩)⟩, by omega⟩
 refine v_exit <| p_seqX <| p_lpX <| p_blkX <| p_seqN <| v_seq <| v_ops <| s_pq w <| s_pq (.int .i64 a) <| s_pq (.int .i64 t) ?_
 have hk23 : (a).toNat < o.length := (by first | omega | (simp; omega))
 obtain ⟨x24, hx24⟩ : ∃ x, o[(a).toNat]? = some x := ⟨_, List.getElem?_eq_getElem hk23⟩
 refine s_pure (.pointer (some ⟨sblk w, soff w + ((a).toNat) * 1, none⟩)) (fun _ q => s_w.idx (k := (a).toNat) (by omega) hk23 q) ?_
 refine s_stSl (k := (a).toNat) (j := 0) t (.int .i64 t) [.int .i64 t] s_w rfl rfl rfl rfl rfl hx24 (Nat.le_of_ble_eq_true rfl) rfl (all_cons rfl all_nil) (fun h25 mh25 sh25 s26 => ?_)
 have E27 := Eh.mod mh25 (fun b hb => by have := fr_w b hb; omega)
 refine s_nil <| p_seqN <| v_seq <| v_seq <| v_ops <| s_pq (.bool true) <| s_nil <| p_seqN <| v_block ?_
 have f29 := (bxb1.mod mh25 np_b1_w)
 refine v_loop3 (α := List Int) (β := Bool) (γ := Value) (fun o g w => [(1, v_l), (4, .pointer (some ⟨b1, 0, none⟩)), (9, w), (11, .bool g)]) (fun o g w hh => Ext h hh ∧ Bx hh b1 [v_n_towers, v_n_links] 26 ∧ SlO hh w o ∧ Fr h.size w ∧ b1 ∉ blks w ∧ Tms n l a t o ∧ Bnd o ∧ (g = false → DoneTo n l o n.links.length)) (fun o g w => mBF o g) (o.set ((a).toNat) t) true w ⟨rfl, rfl, rfl, rfl⟩ ⟨E27, f29, (sl_eq s26 (by simp)), (fr_w.mono (by omega)), np_b1_w, (by rw [fillAll ho (by omega) (by omega)]; exact ⟨hst.1, hst.2, fun q => by cases q⟩)⟩ ?_
 rintro o g w R30 h28 ⟨Eh, bxb1, s_w, fr_w, np_b1_w, ⟨hT, hB, hD⟩⟩
 have zEh := Eh.size
 have f33 := s_n_links.ext Eh
 have lbb1 := bxb1.lt
 refine v_seq <| v_seq <| v_ops <| s_pq (.bool g) <| s_nil <| p_seqN ?_
 refine v_cond rfl (fun c35 => ?_) (fun c35 => ?_)
 ·
  refine v_skip <| p_seqN <| v_block <| v_seq <| v_ops <| s_pq (.bool false) <| s_nil <| p_seqN <| v_seq <| v_ops <| s_pq (.pointer (some ⟨b1, 1, none⟩)) <| s_load v_n_links (fun _ q => bxb1.load rfl q) <| s_pure (.int .i64 (n.links.length : Int)) (fun _ q => f33.lenVC q) <| s_pq (.int .i64 0) <| s_nil <| p_seqN <| v_block <| v_loop4 (α := Nat) (β := List Int) (γ := Bool) (δ := Value) (fun k o1 g1 w1 => [(1, v_l), (4, .pointer (some ⟨b1, 0, none⟩)), (9, w1), (11, .bool g1), (38, v_n_links), (39, .int .i64 (n.links.length : Int)), (40, .int .i64 (k : Int))]) (fun k o1 g1 w1 hh => Ext h hh ∧ Bx hh b1 [v_n_towers, v_n_links] 26 ∧ SlO hh w1 o1 ∧ Fr h.size w1 ∧ b1 ∉ blks w1 ∧ k ≤ n.links.length ∧ BF n l a t o1 g1 k (potO o)) (fun k o1 g1 w1 => n.links.length - k) 0 o false w ⟨rfl, rfl, rfl, rfl, rfl, rfl, rfl⟩ ⟨Eh, bxb1, (sl_eq s_w (by simp)), (fr_w.mono (by omega)), np_b1_w, (by exact ⟨by omega, ⟨hT, hB, fun _ => (fun k x hk => by omega), by simp⟩⟩)⟩ ?_
  rintro k o1 g1 w1 R37 h36 ⟨Eh, bxb1, s_w1, fr_w1, np_b1_w1, ⟨hk, hbf⟩⟩
  have zEh := Eh.size
  have f40 := s_n_links.ext Eh
  have lbb1 := bxb1.lt
  have lt_w1 := s_w1.lt
  refine v_seq <| v_ops <| s_pq (.bool (decide ((k : Int) < (n.links.length : Int)))) <| s_nil <| p_seqN <| v_seq ?_
  refine v_cond rfl (fun c42 => ?_) (fun c42 => ?_)
  ·
   refine v_skip <| p_seqN <| v_seq <| v_block <| v_seq <| v_ops <| s_pq (.int .i64 (k : Int)) ?_
   have hk43 : k < n.links.length := (by first | omega | (simp; omega))
   obtain ⟨x44, hx44⟩ : ∃ x, n.links[k]? = some x := ⟨_, List.getElem?_eq_getElem hk43⟩
   refine s_pure (.pointer (some ⟨sblk v_n_links, soff v_n_links + k * 3, none⟩)) (fun _ q => f40.idx (k := k) rfl hk43 q) <| s_load (.agg #[.int .i64 x44.a, .int .i64 x44.b, .int .i64 x44.delay]) (fun _ q => f40.loadN hx44 rfl q) ?_
   refine s_new (fun h46 b45 hbb45 hzb45 eh46 bxb45 => ?_)
   have E47 := Eh.trans eh46
   have z48 := eh46.size
   have lbb45 := bxb45.lt
   refine s_pq (.int .i64 (k : Int)) ?_
   refine s_stBx (.agg #[.int .i64 x44.a, .int .i64 x44.b, .int .i64 x44.delay]) [.int .i64 x44.a, .int .i64 x44.b, .int .i64 x44.delay] [.int .i64 x44.a, .int .i64 x44.b, .int .i64 x44.delay] bxb45 rfl rfl rfl rfl (by simp) (all_cons rfl (all_cons rfl (all_cons rfl all_nil))) rfl (fun h49 mh49 sh49 bxx50 => ?_)
   have E51 := E47.mod mh49 (fun b hb => by simp at hb; omega)
   refine s_nil <| p_seqN <| v_seq <| v_ops <| s_pq (.pointer (some ⟨b45, 0, none⟩)) <| s_load (.int .i64 x44.a) (fun _ q => bxx50.load rfl q) <| s_pq (.pointer (some ⟨b45, 1, none⟩)) <| s_load (.int .i64 x44.b) (fun _ q => bxx50.load rfl q) <| s_pure (.agg #[.int .i64 x44.a, .int .i64 x44.b]) (fun _ q => w_build (seg_i rfl (seg_i rfl (seg_nil q)))) <| s_pq (.pointer (some ⟨b45, 1, none⟩)) <| s_load (.int .i64 x44.b) (fun _ q => bxx50.load rfl q) <| s_pq (.pointer (some ⟨b45, 0, none⟩)) <| s_load (.int .i64 x44.a) (fun _ q => bxx50.load rfl q) ?_
   refine s_pure (.agg #[.int .i64 x44.b, .int .i64 x44.a]) (fun _ q => w_build (seg_i rfl (seg_i rfl (seg_nil q)))) <| s_pure (.agg #[.int .i64 x44.a, .int .i64 x44.b, .int .i64 x44.b, .int .i64 x44.a]) (fun _ q => w_build (seg_agg rfl rfl (seg_agg rfl rfl (seg_nil q)))) <| s_pq (.int .i64 0) <| s_nil <| p_seqN <| v_block ?_
   have f53 := ((bxb1.ext eh46).mod mh49 (by simp; omega))
   have f54 := ((s_w1.ext eh46).mod mh49 (fun b hb hc => by simp at hc; have := lt_w1 b hb; omega))
   refine v_loop4 (α := Nat) (β := List Int) (γ := Bool) (δ := Value) (fun e o2 g2 w2 => [(1, v_l), (4, .pointer (some ⟨b1, 0, none⟩)), (9, w2), (11, .bool g2), (12, .int .i64 (k : Int)), (38, v_n_links), (39, .int .i64 (n.links.length : Int)), (40, .int .i64 (k : Int)), (55, .agg #[.int .i64 x44.a, .int .i64 x44.b, .int .i64 x44.b, .int .i64 x44.a]), (56, .int .i64 (e : Int))]) (fun e o2 g2 w2 hh => Ext h hh ∧ Bx hh b1 [v_n_towers, v_n_links] 26 ∧ SlO hh w2 o2 ∧ Fr h.size w2 ∧ b1 ∉ blks w2 ∧ e ≤ 2 ∧ BFh n l a t o2 g2 k (potO o) x44 e) (fun e o2 g2 w2 => 2 - e) 0 o1 g1 w1 ⟨rfl, rfl, rfl, rfl, rfl, rfl, rfl, rfl, rfl, rfl⟩ ⟨E51, f53, (sl_eq f54 (by simp)), (fr_w1.mono (by omega)), np_b1_w1, (by exact ⟨by omega, BFh.start hbf⟩)⟩ ?_
   rintro e o2 g2 w2 R55 h52 ⟨Eh, bxb1, s_w2, fr_w2, np_b1_w2, ⟨he, hbh⟩⟩
   have zEh := Eh.size
   have f57 := s_n_towers.ext Eh
   have f58 := s_n_links.ext Eh
   have f59 := s_l.ext Eh
   have lbb1 := bxb1.lt
   have lt_w2 := s_w2.lt
   have hok := hn.at hx44
   have heb := end_bd hok e
   have hl2 := hbh.bf.tms.len
   have hlk : lk n (k : Int) = x44 := lk_get hx44
   refine v_seq <| v_ops <| s_pq (.bool (decide ((e : Int) < 2))) <| s_nil <| p_seqN <| v_seq ?_
   refine v_cond rfl (fun c60 => ?_) (fun c60 => ?_)
   ·
    refine v_skip <| p_seqN <| v_seq <| v_block <| v_seq <| v_ops <| s_pure (.agg #[.int .i64 (end1 x44 e), .int .i64 (end2 x44 e)]) (fun _ q => ends_arr x44 e (by omega) q) ?_
    refine s_new (fun h62 b61 hbb61 hzb61 eh62 bxb61 => ?_)
    have E63 := Eh.trans eh62
    have z64 := eh62.size
    have lbb61 := bxb61.lt
    refine s_stBx (.agg #[.int .i64 (end1 x44 e), .int .i64 (end2 x44 e)]) [.int .i64 (end1 x44 e), .int .i64 (end2 x44 e)] [.int .i64 (end1 x44 e), .int .i64 (end2 x44 e)] bxb61 rfl rfl rfl rfl (by simp) (all_cons rfl (all_cons rfl all_nil)) rfl (fun h65 mh65 sh65 bxx66 => ?_)
    have E67 := E63.mod mh65 (fun b hb => by simp at hb; omega)
    refine s_nil <| p_seqN <| v_seq <| v_ops <| s_pure (.pointer (some ⟨b61, 0, none⟩)) (fun _ q => ⟨_, _, _, 0, rfl, rfl, by decide, q⟩) <| s_pure (.pointer (some ⟨b61, 1, none⟩)) (fun _ q => ⟨_, _, _, 1, rfl, rfl, by decide, q⟩) <| s_load (.int .i64 (end1 x44 e)) (fun _ q => bxx66.load rfl q) <| s_pq (.int .i64 (end1 x44 e)) <| s_load (.int .i64 (end2 x44 e)) (fun _ q => bxx66.load rfl q) <| s_pq (.int .i64 (end2 x44 e)) <| s_nil <| p_seqN <| v_seq <| v_seq <| v_ops <| s_pq w2 <| s_pq (.int .i64 (end1 x44 e)) ?_
    have f68 := ((s_w2.ext eh62).mod mh65 (fun b hb hc => by simp at hc; have := lt_w2 b hb; omega))
    have hk69 : ((end1 x44 e)).toNat < o2.length := (by first | omega | (simp; omega))
    obtain ⟨x70, hx70⟩ : ∃ x, o2[((end1 x44 e)).toNat]? = some x := ⟨_, List.getElem?_eq_getElem hk69⟩
    refine s_pure (.pointer (some ⟨sblk w2, soff w2 + (((end1 x44 e)).toNat) * 1, none⟩)) (fun _ q => f68.idx (k := ((end1 x44 e)).toNat) (by omega) hk69 q) <| s_load (.int .i64 x70) (fun _ q => f68.load1 hx70 rfl q) <| s_pq (.bool (decide (x70 < 0))) <| s_nil <| p_seqN ?_
    refine v_cond rfl (fun c71 => ?_) (fun c71 => ?_)
    ·
     refine v_exit <| p_seqX <| p_blkX <| p_seqN <| v_ops <| s_pure (.int .i64 ((e : Int) + 1)) (fun _ q => ArithVC.mk (by omega) q) <| s_pq (.int .i64 ((e : Int) + 1)) <| s_nil ?_
     have f72 := ((bxb1.ext eh62).mod mh65 (by simp; omega))
     exact p_lpN ⟨e + 1, o2, g2, w2, ⟨rfl, rfl, rfl, rfl, rfl, rfl, rfl, rfl, rfl, rfl⟩, ⟨E67, f72, (sl_eq f68 (by simp)), (fr_w2.mono (by omega)), np_b1_w2, (by first | exact ⟨by omega, hbh.next (half_neg (by omega) (by assumption) (by assumption))⟩ | exact ⟨by omega, BFh.set2 hf hn (by omega) hbh hx44 (by omega) (by omega) (by assumption) (by omega) (by assumption) (by omega)⟩ | exact ⟨by omega, hbh.next (half_ok hx44 (by omega) (by omega) (by assumption) (by assumption) (by omega) (by omega))⟩)⟩, by omega⟩
    refine v_skip <| p_seqN <| v_seq <| v_drawF <| d_pq v_l <| d_pq (.int .i64 (k : Int)) <| d_pq w2 <| d_pq (.int .i64 (end1 x44 e)) <| d_pureT (.pointer (some ⟨sblk w2, soff w2 + (((end1 x44 e)).toNat) * 1, none⟩)) (fun _ q => f68.idx (k := ((end1 x44 e)).toNat) (by omega) hk69 q) ?_
    have f73 := ((bxb1.ext eh62).mod mh65 (by simp; omega))
    refine d_loadO (.agg #[v_n_towers, v_n_links]) (fun _ q => f73.loadA rfl q) <| d_loadO (.int .i64 x70) (fun _ q => f68.load1 hx70 rfl q) <| d_eff ?_
    have f74 := ((f57.ext eh62).mod mh65 (fun b hb hc => by simp at hc; have := lt_n_towers b hb; omega))
    have f75 := ((f58.ext eh62).mod mh65 (fun b hb hc => by simp at hc; have := lt_n_links b hb; omega))
    have f76 := ((f59.ext eh62).mod mh65 (fun b hb hc => by simp at hc; have := lt_l b hb; omega))
    refine s_call [.agg #[v_n_towers, v_n_links], v_l, .int .i64 (k : Int), .int .i64 x70] rfl (impl_goOver_ok n v_n_towers v_n_links v_l l (k : Int) x70 _ f74 f75 f76 m hn hf (by omega) (by have := Bnd.at hn hbh.bf.tms hbh.bf.bnd (by assumption : o2[(end1 _ e).toNat]? = some _); omega)) ?_
    rintro _ h77 ⟨rfl, eh77⟩
    have E78 := E67.trans eh77
    have z79 := eh77.size
    refine s_nil ⟨fun hl => (by cases hl), ?_⟩
    refine d_pq (.int .i64 (over l (k : Int) (lk n (k : Int)) x70)) <| d_done <| p_seqN <| v_seq <| v_ops <| s_pq w2 <| s_pq (.int .i64 (end2 x44 e)) ?_
    have f81 := (f68.ext eh77)
    have hk82 : ((end2 x44 e)).toNat < o2.length := (by first | omega | (simp; omega))
    obtain ⟨x83, hx83⟩ : ∃ x, o2[((end2 x44 e)).toNat]? = some x := ⟨_, List.getElem?_eq_getElem hk82⟩
    refine s_pure (.pointer (some ⟨sblk w2, soff w2 + (((end2 x44 e)).toNat) * 1, none⟩)) (fun _ q => f81.idx (k := ((end2 x44 e)).toNat) (by omega) hk82 q) <| s_load (.int .i64 x83) (fun _ q => f81.load1 hx83 rfl q) <| s_pq (.bool (decide (x83 < 0))) <| s_pq (.bool (decide (x83 < 0))) ?_
    refine s_splitT rfl (fun c84 => ?_) (fun c84 => ?_)
    ·
     refine s_pass rfl <| s_pass rfl <| s_pass rfl <| s_pass rfl <| s_pass rfl <| s_pass rfl <| s_pq (.bool true) <| s_nil <| p_seqN <| v_condY rfl rfl <| v_ops <| s_pq w2 <| s_pq (.int .i64 (end2 x44 e)) <| s_pq (.int .i64 (over l (k : Int) (lk n (k : Int)) x70)) <| s_pure (.pointer (some ⟨sblk w2, soff w2 + (((end2 x44 e)).toNat) * 1, none⟩)) (fun _ q => f81.idx (k := ((end2 x44 e)).toNat) (by omega) hk82 q) ?_
     refine s_stSl (k := ((end2 x44 e)).toNat) (j := 0) (over l (k : Int) (lk n (k : Int)) x70) (.int .i64 (over l (k : Int) (lk n (k : Int)) x70)) [.int .i64 (over l (k : Int) (lk n (k : Int)) x70)] f81 rfl rfl rfl rfl rfl hx83 (Nat.le_of_ble_eq_true rfl) rfl (all_cons rfl all_nil) (fun h85 mh85 sh85 s86 => ?_)
     have E87 := E78.mod mh85 (fun b hb => by have := fr_w2 b hb; omega)
     refine s_pq (.bool true) <| s_nil <| p_blkN <| p_seqN <| v_ops <| s_pure (.int .i64 ((e : Int) + 1)) (fun _ q => ArithVC.mk (by omega) q) <| s_pq (.int .i64 ((e : Int) + 1)) <| s_nil ?_
     have f88 := ((f73.ext eh77).mod mh85 np_b1_w2)
     exact p_lpN ⟨e + 1, (o2.set (((end2 x44 e)).toNat) (over l (k : Int) (lk n (k : Int)) x70)), true, w2, ⟨rfl, rfl, rfl, rfl, rfl, rfl, rfl, rfl, rfl, rfl⟩, ⟨E87, f88, (sl_eq s86 (by simp)), (fr_w2.mono (by omega)), np_b1_w2, (by first | exact ⟨by omega, hbh.next (half_neg (by omega) (by assumption) (by assumption))⟩ | exact ⟨by omega, BFh.set2 hf hn (by omega) hbh hx44 (by omega) (by omega) (by assumption) (by omega) (by assumption) (by omega)⟩ | exact ⟨by omega, hbh.next (half_ok hx44 (by omega) (by omega) (by assumption) (by assumption) (by omega) (by omega))⟩)⟩, by omega⟩
    refine s_run rfl <| s_pq (.int .i64 (over l (k : Int) (lk n (k : Int)) x70)) <| s_run rfl <| s_pq w2 <| s_run rfl <| s_pq (.int .i64 (end2 x44 e)) <| s_run rfl <| s_pure (.pointer (some ⟨sblk w2, soff w2 + (((end2 x44 e)).toNat) * 1, none⟩)) (fun _ q => f81.idx (k := ((end2 x44 e)).toNat) (by omega) hk82 q) <| s_run rfl <| s_load (.int .i64 x83) (fun _ q => f81.load1 hx83 rfl q) <| s_run rfl <| s_pq (.bool (decide ((over l (k : Int) (lk n (k : Int)) x70) < x83))) <| s_pq (.bool (decide ((over l (k : Int) (lk n (k : Int)) x70) < x83))) ?_
    refine s_nil <| p_seqN ?_
    refine v_cond rfl (fun c89 => ?_) (fun c89 => ?_)
    ·
     refine v_ops <| s_pq w2 <| s_pq (.int .i64 (end2 x44 e)) <| s_pq (.int .i64 (over l (k : Int) (lk n (k : Int)) x70)) <| s_pure (.pointer (some ⟨sblk w2, soff w2 + (((end2 x44 e)).toNat) * 1, none⟩)) (fun _ q => f81.idx (k := ((end2 x44 e)).toNat) (by omega) hk82 q) ?_
     refine s_stSl (k := ((end2 x44 e)).toNat) (j := 0) (over l (k : Int) (lk n (k : Int)) x70) (.int .i64 (over l (k : Int) (lk n (k : Int)) x70)) [.int .i64 (over l (k : Int) (lk n (k : Int)) x70)] f81 rfl rfl rfl rfl rfl hx83 (Nat.le_of_ble_eq_true rfl) rfl (all_cons rfl all_nil) (fun h90 mh90 sh90 s91 => ?_)
     have E92 := E78.mod mh90 (fun b hb => by have := fr_w2 b hb; omega)
     refine s_pq (.bool true) <| s_nil <| p_blkN <| p_seqN <| v_ops <| s_pure (.int .i64 ((e : Int) + 1)) (fun _ q => ArithVC.mk (by omega) q) <| s_pq (.int .i64 ((e : Int) + 1)) <| s_nil ?_
     have f93 := ((f73.ext eh77).mod mh90 np_b1_w2)
     exact p_lpN ⟨e + 1, (o2.set (((end2 x44 e)).toNat) (over l (k : Int) (lk n (k : Int)) x70)), true, w2, ⟨rfl, rfl, rfl, rfl, rfl, rfl, rfl, rfl, rfl, rfl⟩, ⟨E92, f93, (sl_eq s91 (by simp)), (fr_w2.mono (by omega)), np_b1_w2, (by first | exact ⟨by omega, hbh.next (half_neg (by omega) (by assumption) (by assumption))⟩ | exact ⟨by omega, BFh.set2 hf hn (by omega) hbh hx44 (by omega) (by omega) (by assumption) (by omega) (by assumption) (by omega)⟩ | exact ⟨by omega, hbh.next (half_ok hx44 (by omega) (by omega) (by assumption) (by assumption) (by omega) (by omega))⟩)⟩, by omega⟩
    refine v_skip <| p_blkN <| p_seqN <| v_ops <| s_pure (.int .i64 ((e : Int) + 1)) (fun _ q => ArithVC.mk (by omega) q) <| s_pq (.int .i64 ((e : Int) + 1)) <| s_nil ?_
    have f94 := (f73.ext eh77)
    exact p_lpN ⟨e + 1, o2, g2, w2, ⟨rfl, rfl, rfl, rfl, rfl, rfl, rfl, rfl, rfl, rfl⟩, ⟨E78, f94, (sl_eq f81 (by simp)), (fr_w2.mono (by omega)), np_b1_w2, (by first | exact ⟨by omega, hbh.next (half_neg (by omega) (by assumption) (by assumption))⟩ | exact ⟨by omega, BFh.set2 hf hn (by omega) hbh hx44 (by omega) (by omega) (by assumption) (by omega) (by assumption) (by omega)⟩ | exact ⟨by omega, hbh.next (half_ok hx44 (by omega) (by omega) (by assumption) (by assumption) (by omega) (by omega))⟩)⟩, by omega⟩
   refine v_exit <| p_seqX <| p_lpX <| p_blkX <| p_blkN <| p_seqN <| v_ops <| s_pure (.int .i64 ((k : Int) + 1)) (fun _ q => ArithVC.mk (by omega) q) <| s_pq (.int .i64 ((k : Int) + 1)) <| s_nil ?_
   exact p_lpN ⟨k + 1, o2, g2, w2, ⟨rfl, rfl, rfl, rfl, rfl, rfl, rfl⟩, ⟨Eh, bxb1, (sl_eq s_w2 (by simp)), (fr_w2.mono (by omega)), np_b1_w2, (by exact ⟨by omega, hbh.ends (by omega) (by assumption)⟩)⟩, by omega⟩
  refine v_exit <| p_seqX <| p_lpX <| p_blkX <| p_blkN ?_
  exact p_lpN ⟨o1, g1, w1, ⟨rfl, rfl, rfl, rfl⟩, ⟨Eh, bxb1, (sl_eq s_w1 (by simp)), (fr_w1.mono (by omega)), np_b1_w1, (by exact ⟨hbf.tms, hbf.bnd, fun q => hbf.done_all q (by omega)⟩)⟩, by exact hbf.dec (by assumption)⟩
 refine v_exit <| p_seqX <| p_lpX <| p_blkX <| p_seqN <| v_seq <| v_ops <| s_pq w <| s_pq w <| s_nil <| p_seqN <| v_ret <| p_ret [w] w (fun _ q => q) rfl ?_
 have ho : (arrOf n l a t) = o := by exact (arrOf_eq hn ha ht.1 ⟨hT, hD (by simpa using (by assumption : ¬ _ = true))⟩).symm
 exact ⟨w, by first | (rw [ho]; done) | rfl, sl_eq s_w (congrArg (fun o => o) ho).symm, fr_w.mono (by omega), Eh⟩

theorem spec_roOther_ok (x : LinkD) (i : Int) (h : Heap)  : Cn f_spec_roOther [.agg #[.int .i64 x.a, .int .i64 x.b, .int .i64 x.delay], .int .i64 i] h fun v h' => v = .int .i64 (othr x i) ∧ Ext h h' := by
 refine calls_of r_spec_roOther ?_
 refine v_seq <| v_ops ?_
 refine s_box [.int .i64 x.a, .int .i64 x.b, .int .i64 x.delay] rfl (fun h2 b1 hbb1 hzb1 eh2 bxb1 => ?_)
 have E3 := (Ext.refl h).trans eh2
 have z4 := eh2.size
 have lbb1 := bxb1.lt
 refine s_pq (.int .i64 0) <| s_nil <| p_seqN <| v_seq <| v_seq <| v_ops <| s_pq (.int .i64 i) <| s_nil <| p_seqN <| v_block <| v_seq <| v_ops <| s_pq (.pointer (some ⟨b1, 0, none⟩)) <| s_load (.int .i64 x.a) (fun _ q => bxb1.load rfl q) <| s_pq (.bool (i == x.a)) <| s_pq (.bool (i == x.a)) <| s_nil <| p_seqN ?_
 refine v_cond rfl (fun c5 => ?_) (fun c5 => ?_)
 ·
  refine v_seq <| v_ops <| s_pq (.pointer (some ⟨b1, 1, none⟩)) <| s_load (.int .i64 x.b) (fun _ q => bxb1.load rfl q) <| s_pq (.int .i64 x.b) <| s_nil <| p_seqN <| v_ret <| p_blkR <| p_seqR <| p_ret [.int .i64 x.b] (.int .i64 x.b) (fun _ q => q) rfl ?_
  have ho : (othr x i) = x.b := by unfold othr; first | (rw [if_pos (by omega)]; done) | (rw [if_neg (by omega), if_pos (by omega)]; done) | (rw [if_neg (by omega), if_neg (by omega)]; done)
  exact ⟨by first | (rw [ho]; done) | rfl, E3⟩
 refine v_seq <| v_ops <| s_pq (.pointer (some ⟨b1, 1, none⟩)) <| s_load (.int .i64 x.b) (fun _ q => bxb1.load rfl q) <| s_pq (.bool (i == x.b)) <| s_pq (.bool (i == x.b)) <| s_nil <| p_seqN ?_
 refine v_cond rfl (fun c6 => ?_) (fun c6 => ?_)
 ·
  refine v_seq <| v_ops <| s_pq (.pointer (some ⟨b1, 0, none⟩)) <| s_load (.int .i64 x.a) (fun _ q => bxb1.load rfl q) <| s_pq (.int .i64 x.a) <| s_nil <| p_seqN <| v_ret <| p_blkR <| p_seqR <| p_ret [.int .i64 x.a] (.int .i64 x.a) (fun _ q => q) rfl ?_
  have ho : (othr x i) = x.a := by unfold othr; first | (rw [if_pos (by omega)]; done) | (rw [if_neg (by omega), if_pos (by omega)]; done) | (rw [if_neg (by omega), if_neg (by omega)]; done)
  exact ⟨by first | (rw [ho]; done) | rfl, E3⟩
 refine v_skip <| p_blkN <| p_seqN <| v_seq <| v_ops <| s_pq (.int .i64 (-1)) <| s_nil <| p_seqN <| v_ret <| p_ret [.int .i64 (-1)] (.int .i64 (-1)) (fun _ q => q) rfl ?_
 have ho : (othr x i) = (-1) := by unfold othr; first | (rw [if_pos (by omega)]; done) | (rw [if_neg (by omega), if_pos (by omega)]; done) | (rw [if_neg (by omega), if_neg (by omega)]; done)
 exact ⟨by first | (rw [ho]; done) | rfl, E3⟩

set_option maxRecDepth 10000 in
set_option maxHeartbeats 4000000 in
theorem spec_roFirst_ok (n : NetP) (v_n_towers : Value) (v_n_links : Value) (v_l : Value) (l : List FogD) (a : Int) (t : Int) (h : Heap) (s_n_towers : Sl h v_n_towers n.towers) (s_n_links : Sl h v_n_links n.links) (s_l : Sl h v_l l) (m : Nat) (hn : NetOk n) (hf : FogsOk m l) (ha : 0 ≤ a ∧ a ≤ (n.towers.length : Int) - 1) (ht : 0 ≤ t ∧ t ≤ 10000) : Cn f_spec_roFirst [.agg #[v_n_towers, v_n_links], v_l, .int .i64 a, .int .i64 t] h fun v h' => ∃ r0 : Value, v = r0 ∧ SlO h' r0 (arrOf n l a t) ∧ Fr h.size r0 ∧ Ext h h' := by
 have lt_n_towers := s_n_towers.lt
 have l63_n_towers := s_n_towers.len63
 have lt_n_links := s_n_links.lt
 have l63_n_links := s_n_links.len63
 have lt_l := s_l.lt
 have l63_l := s_l.len63
 have hst := arr_start (l := l) ha ht
 have ht2 := hn.t2
 refine calls_of r_spec_roFirst ?_
 refine v_seq <| v_ops ?_
 refine s_box [v_n_towers, v_n_links] rfl (fun h2 b1 hbb1 hzb1 eh2 bxb1 => ?_)
 have E3 := (Ext.refl h).trans eh2
 have z4 := eh2.size
 have lbb1 := bxb1.lt
 refine s_pq (.slice none 0 0) <| s_nil <| p_seqN <| v_seq <| v_ops <| s_pq (.slice none 0 0) <| s_nil <| p_seqN <| v_seq <| v_seq <| v_ops <| s_pq (.pointer (some ⟨b1, 0, none⟩)) <| s_load v_n_towers (fun _ q => bxb1.load rfl q) <| s_pure (.int .i64 (n.towers.length : Int)) (fun _ q => s_n_towers.lenVC q) <| s_pq (.int .i64 0) <| s_nil <| p_seqN <| v_block <| v_loop3 (α := Nat) (β := List Int) (γ := Value) (fun k o w => [(1, v_l), (2, .int .i64 a), (3, .int .i64 t), (4, .pointer (some ⟨b1, 0, none⟩)), (9, w), (20, .int .i64 (n.towers.length : Int)), (21, .int .i64 (k : Int))]) (fun k o w hh => Ext h hh ∧ Bx hh b1 [v_n_towers, v_n_links] 26 ∧ SlO hh w o ∧ Fr h.size w ∧ b1 ∉ blks w ∧ k ≤ n.towers.length ∧ o = List.replicate k (-1)) (fun k o w => n.towers.length - k) 0 [] (.slice none 0 0) ⟨rfl, rfl, rfl, rfl, rfl, rfl, rfl⟩ ⟨E3, bxb1, (sl_eq (SlX.nil (α := Int) true h2) (by simp)), (Fr.nil _), (by simp [blks, fpts]), (by simp)⟩ ?_
 rintro k o w R6 h5 ⟨Eh, bxb1, s_w, fr_w, np_b1_w, ⟨hk, ho⟩⟩
 have zEh := Eh.size
 have f8 := s_n_towers.ext Eh
 have lbb1 := bxb1.lt
 have lt_w := s_w.lt
 have hl : o.length = k := by rw [ho]; simp
 refine v_seq <| v_ops <| s_pq (.bool (decide ((k : Int) < (n.towers.length : Int)))) <| s_nil <| p_seqN <| v_seq ?_
 refine v_cond rfl (fun c11 => ?_) (fun c11 => ?_)
 ·
  refine v_skip <| p_seqN <| v_seq <| v_block <| v_ops <| s_pq w ?_
  refine s_row (α := Int) [(-1)] (fun _ q => seg_i rfl (seg_nil q)) rfl (by simp [maxLen]) (fun r12 h13 eh13 zh13 s_r12 fr_r12 => ?_)
  have E14 := Eh.trans eh13
  have z15 := eh13.size
  have f16 := (s_w.ext eh13)
  refine s_app f16 s_r12 rfl rfl rfl (by simp [maxLen]; omega) (by simp; omega) (fun r17 h18 mh18 zh18 s_r17 ab_r17 => ?_)
  have E19 := E14.mod mh18 (fun b hb => by have := fr_w b hb; omega)
  have fr_r17 := fr_w.app ab_r17 (by omega)
  have np20 : b1 ∉ blks r17 := fun hc => (ab_r17 _ hc).elim np_b1_w (fun hc => by omega)
  refine s_pq r17 <| s_nil <| p_blkN <| p_seqN <| v_ops <| s_pure (.int .i64 ((k : Int) + 1)) (fun _ q => ArithVC.mk (by omega) q) <| s_pq (.int .i64 ((k : Int) + 1)) <| s_nil ?_
  have f22 := ((bxb1.ext eh13).mod mh18 np_b1_w)
  exact p_lpN ⟨k + 1, (o ++ [(-1)]), r17, ⟨rfl, rfl, rfl, rfl, rfl, rfl, rfl⟩, ⟨E19, f22, (sl_eq s_r17 (by simp)), (fr_r17.mono (by omega)), np20, (by exact ⟨by omega, by rw [ho, rep_snoc]⟩)⟩, by omega⟩
 refine v_exit <| p_seqX <| p_lpX <| p_blkX <| p_seqN <| v_seq <| v_ops <| s_pq w <| s_pq (.int .i64 a) <| s_pq (.int .i64 t) ?_
 have hk23 : (a).toNat < o.length := (by first | omega | (simp; omega))
 obtain ⟨x24, hx24⟩ : ∃ x, o[(a).toNat]? = some x := ⟨_, List.getElem?_eq_getElem hk23⟩
 refine s_pure (.pointer (some ⟨sblk w, soff w + ((a).toNat) * 1, none⟩)) (fun _ q => s_w.idx (k := (a).toNat) (by omega) hk23 q) ?_
 refine s_stSl (k := (a).toNat) (j := 0) t (.int .i64 t) [.int .i64 t] s_w rfl rfl rfl rfl rfl hx24 (Nat.le_of_ble_eq_true rfl) rfl (all_cons rfl all_nil) (fun h25 mh25 sh25 s26 => ?_)
 have E27 := Eh.mod mh25 (fun b hb => by have := fr_w b hb; omega)
 refine s_nil <| p_seqN <| v_seq <| v_ops <| s_pq (.pointer (some ⟨b1, 0, none⟩)) ?_
 have f28 := (bxb1.mod mh25 np_b1_w)
 refine s_load v_n_towers (fun _ q => f28.load rfl q) <| s_pure (.int .i64 (n.towers.length : Int)) (fun _ q => f8.lenVC q) ?_
 refine s_mk (α := Bool) n.towers.length false rfl rfl rfl rfl rfl rfl (by first | (simp [maxLen]; done) | (simp [maxLen]; omega)) (by omega) (fun r29 h30 eh30 zh30 s_r29 fr_r29 => ?_)
 have E31 := E27.trans eh30
 have z32 := eh30.size
 refine s_pq r29 <| s_nil <| p_seqN <| v_block ?_
 have f34 := (f28.ext eh30)
 have f35 := (s26.ext eh30)
 refine v_loop4 (α := List Int) (β := List Bool) (γ := Value) (δ := Value) (fun o d w y => [(1, v_l), (4, .pointer (some ⟨b1, 0, none⟩)), (9, w), (10, y)]) (fun o d w y hh => Ext h hh ∧ Bx hh b1 [v_n_towers, v_n_links] 26 ∧ SlO hh w o ∧ Fr h.size w ∧ SlO hh y d ∧ Fr h.size y ∧ b1 ∉ blks w ∧ (∀ b ∈ blks y, b ∉ blks w) ∧ b1 ∉ blks y ∧ Dij n l a t o d) (fun o d w y => undone d) (o.set ((a).toNat) t) (List.replicate n.towers.length false) w r29 ⟨rfl, rfl, rfl, rfl⟩ ⟨E31, f34, (sl_eq f35 (by simp)), (fr_w.mono (by omega)), (sl_eq s_r29 (by simp)), (fr_r29.mono (by omega)), np_b1_w, (fun b hb hc => by have := fr_r29 b hb; have := lt_w b hc; omega), (fun hc => by have := fr_r29 _ hc; omega), (by obtain rfl : k = n.towers.length := (by omega); rw [ho]; exact Dij.start hst.1 hst.2)⟩ ?_
 rintro o d w y R36 h33 ⟨Eh, bxb1, s_w, fr_w, s_y, fr_y, np_b1_w, np_y_w, np_b1_y, hdj⟩
 have zEh := Eh.size
 have lbb1 := bxb1.lt
 have lt_w := s_w.lt
 have lt_y := s_y.lt
 have hol := hdj.tms.len
 have hdl := hdj.len
 refine v_block <| v_seq <| v_ops <| s_pq (.int .i64 (-1)) <| s_nil <| p_seqN <| v_seq <| v_seq <| v_ops <| s_pq w <| s_pure (.int .i64 (o.length : Int)) (fun _ q => s_w.lenVC q) <| s_pq (.int .i64 0) <| s_nil <| p_seqN <| v_block <| v_loop2 (α := Nat) (β := Int) (fun k i => [(1, v_l), (4, .pointer (some ⟨b1, 0, none⟩)), (9, w), (10, y), (11, .int .i64 i), (35, w), (36, .int .i64 (o.length : Int)), (37, .int .i64 (k : Int))]) (fun k i hh => Ext h hh ∧ Bx hh b1 [v_n_towers, v_n_links] 26 ∧ SlO hh w o ∧ SlO hh y d ∧ k ≤ o.length ∧ (-1 ≤ i ∧ i < o.length) ∧ Least o d k i) (fun k i => o.length - k) 0 (-1) ⟨rfl, rfl, rfl, rfl, rfl, rfl, rfl, rfl⟩ ⟨Eh, bxb1, s_w, s_y, (by exact ⟨by omega, by (have := hn.t1); omega, Least.start o d⟩)⟩ ?_
 rintro k i R42 h41 ⟨Eh, bxb1, s_w, s_y, ⟨hk, hib, hle⟩⟩
 have zEh := Eh.size
 have f45 := s_n_links.ext Eh
 have lbb1 := bxb1.lt
 have ltk_w := s_w.lt
 have ltk_y := s_y.lt
 have hik : 0 ≤ i → i < k := fun q => (hle.yes q).1
 refine v_seq <| v_ops <| s_pq (.bool (decide ((k : Int) < (o.length : Int)))) <| s_nil <| p_seqN <| v_seq ?_
 refine v_cond rfl (fun c47 => ?_) (fun c47 => ?_)
 ·
  refine v_skip <| p_seqN <| v_seq <| v_block <| v_seq <| v_ops <| s_pq (.int .i64 (k : Int)) ?_
  have hk48 : k < o.length := (by first | omega | (simp; omega))
  obtain ⟨x49, hx49⟩ : ∃ x, o[k]? = some x := ⟨_, List.getElem?_eq_getElem hk48⟩
  refine s_pure (.pointer (some ⟨sblk w, soff w + k * 1, none⟩)) (fun _ q => s_w.idx (k := k) rfl hk48 q) <| s_load (.int .i64 x49) (fun _ q => s_w.load1 hx49 rfl q) <| s_pq (.int .i64 (k : Int)) <| s_pq (.int .i64 x49) <| s_nil <| p_seqN <| v_seq <| v_ops <| s_pq y <| s_pq (.int .i64 (k : Int)) ?_
  have hk50 : k < d.length := (by first | omega | (simp; omega))
  obtain ⟨x51, hx51⟩ : ∃ x, d[k]? = some x := ⟨_, List.getElem?_eq_getElem hk50⟩
  refine s_pure (.pointer (some ⟨sblk y, soff y + k * 1, none⟩)) (fun _ q => s_y.idx (k := k) rfl hk50 q) <| s_load (.bool x51) (fun _ q => s_y.load1 hx51 rfl q) <| s_pq (.bool (!x51)) <| s_pq (.bool (!x51)) ?_
  refine s_splitT rfl (fun c52 => ?_) (fun c52 => ?_)
  ·
   refine s_run rfl <| s_pq (.int .i64 x49) <| s_run rfl <| s_pq (.bool (decide (x49 ≥ 0))) <| s_pq (.bool (decide (x49 ≥ 0))) <| s_pq (.bool (decide (x49 ≥ 0))) ?_
   refine s_splitT rfl (fun c53 => ?_) (fun c53 => ?_)
   ·
    refine s_run rfl <| s_pq (.int .i64 i) <| s_run rfl <| s_pq (.bool (decide (i < 0))) <| s_run rfl <| s_pq (.bool (decide (i < 0))) ?_
    refine s_splitT rfl (fun c54 => ?_) (fun c54 => ?_)
    ·
     refine s_pass rfl <| s_pass rfl <| s_pass rfl <| s_pass rfl <| s_pass rfl <| s_pass rfl <| s_run rfl <| s_pq (.bool true) <| s_pq (.bool true) <| s_nil <| p_seqN <| v_condY rfl rfl <| v_ops <| s_pq (.int .i64 (k : Int)) <| s_pq (.int .i64 (k : Int)) <| s_nil <| p_blkN <| p_seqN <| v_ops <| s_pure (.int .i64 ((k : Int) + 1)) (fun _ q => ArithVC.mk (by omega) q) <| s_pq (.int .i64 ((k : Int) + 1)) <| s_nil ?_
     exact p_lpN ⟨k + 1, (k : Int), ⟨rfl, rfl, rfl, rfl, rfl, rfl, rfl, rfl⟩, ⟨Eh, bxb1, s_w, s_y, (by first | exact ⟨by omega, by omega, hle.keepD (by assumption) (by assumption)⟩ | exact ⟨by omega, by omega, hle.keepN (by assumption) (by assumption)⟩ | exact ⟨by omega, by omega, hle.take2 (by assumption) (by assumption) (by assumption) (by assumption) (by first | exact .inl (by assumption) | exact .inr ⟨_, by assumption, by assumption⟩)⟩ | exact ⟨by omega, by omega, hle.keepL (by assumption) (by assumption) (by assumption) (by assumption)⟩)⟩, by omega⟩
    refine s_run rfl <| s_pq (.int .i64 x49) <| s_run rfl <| s_pq w <| s_run rfl <| s_pq (.int .i64 i) <| s_run rfl ?_
    have hk55 : (i).toNat < o.length := (by first | omega | (simp; omega))
    obtain ⟨x56, hx56⟩ : ∃ x, o[(i).toNat]? = some x := ⟨_, List.getElem?_eq_getElem hk55⟩
    refine s_pure (.pointer (some ⟨sblk w, soff w + ((i).toNat) * 1, none⟩)) (fun _ q => s_w.idx (k := (i).toNat) (by omega) hk55 q) <| s_run rfl <| s_load (.int .i64 x56) (fun _ q => s_w.load1 hx56 rfl q) <| s_run rfl <| s_pq (.bool (decide (x49 < x56))) <| s_run rfl <| s_pq (.bool (decide (x49 < x56))) <| s_pq (.bool (decide (x49 < x56))) <| s_nil <| p_seqN ?_
    refine v_cond rfl (fun c57 => ?_) (fun c57 => ?_)
    ·
     refine v_ops <| s_pq (.int .i64 (k : Int)) <| s_pq (.int .i64 (k : Int)) <| s_nil <| p_blkN <| p_seqN <| v_ops <| s_pure (.int .i64 ((k : Int) + 1)) (fun _ q => ArithVC.mk (by omega) q) <| s_pq (.int .i64 ((k : Int) + 1)) <| s_nil ?_
     exact p_lpN ⟨k + 1, (k : Int), ⟨rfl, rfl, rfl, rfl, rfl, rfl, rfl, rfl⟩, ⟨Eh, bxb1, s_w, s_y, (by first | exact ⟨by omega, by omega, hle.keepD (by assumption) (by assumption)⟩ | exact ⟨by omega, by omega, hle.keepN (by assumption) (by assumption)⟩ | exact ⟨by omega, by omega, hle.take2 (by assumption) (by assumption) (by assumption) (by assumption) (by first | exact .inl (by assumption) | exact .inr ⟨_, by assumption, by assumption⟩)⟩ | exact ⟨by omega, by omega, hle.keepL (by assumption) (by assumption) (by assumption) (by assumption)⟩)⟩, by omega⟩
    refine v_skip <| p_blkN <| p_seqN <| v_ops <| s_pure (.int .i64 ((k : Int) + 1)) (fun _ q => ArithVC.mk (by omega) q) <| s_pq (.int .i64 ((k : Int) + 1)) <| s_nil ?_
    exact p_lpN ⟨k + 1, i, ⟨rfl, rfl, rfl, rfl, rfl, rfl, rfl, rfl⟩, ⟨Eh, bxb1, s_w, s_y, (by first | exact ⟨by omega, by omega, hle.keepD (by assumption) (by assumption)⟩ | exact ⟨by omega, by omega, hle.keepN (by assumption) (by assumption)⟩ | exact ⟨by omega, by omega, hle.take2 (by assumption) (by assumption) (by assumption) (by assumption) (by first | exact .inl (by assumption) | exact .inr ⟨_, by assumption, by assumption⟩)⟩ | exact ⟨by omega, by omega, hle.keepL (by assumption) (by assumption) (by assumption) (by assumption)⟩)⟩, by omega⟩
   refine s_pass rfl <| s_pass rfl <| s_pass rfl <| s_splitU rfl <| s_passU rfl <| s_passU rfl <| s_passU rfl <| s_passU rfl <| s_passU rfl <| s_passU rfl <| s_pass rfl <| s_pq (.bool false) <| s_nil <| p_seqN <| v_condN rfl (by simp) <| v_skip <| p_blkN <| p_seqN <| v_ops <| s_pure (.int .i64 ((k : Int) + 1)) (fun _ q => ArithVC.mk (by omega) q) <| s_pq (.int .i64 ((k : Int) + 1)) <| s_nil ?_
   exact p_lpN ⟨k + 1, i, ⟨rfl, rfl, rfl, rfl, rfl, rfl, rfl, rfl⟩, ⟨Eh, bxb1, s_w, s_y, (by first | exact ⟨by omega, by omega, hle.keepD (by assumption) (by assumption)⟩ | exact ⟨by omega, by omega, hle.keepN (by assumption) (by assumption)⟩ | exact ⟨by omega, by omega, hle.take2 (by assumption) (by assumption) (by assumption) (by assumption) (by first | exact .inl (by assumption) | exact .inr ⟨_, by assumption, by assumption⟩)⟩ | exact ⟨by omega, by omega, hle.keepL (by assumption) (by assumption) (by assumption) (by assumption)⟩)⟩, by omega⟩
  have c52 := Classical.not_not.1 c52
  refine s_pass rfl <| s_pass rfl <| s_pq (.bool false) <| s_pq (.bool false) <| s_splitN rfl (by simp) <| s_pass rfl <| s_pass rfl <| s_pass rfl <| s_splitU rfl <| s_passU rfl <| s_passU rfl <| s_passU rfl <| s_passU rfl <| s_passU rfl <| s_passU rfl <| s_pass rfl <| s_pq (.bool false) <| s_nil <| p_seqN <| v_condN rfl (by simp) <| v_skip <| p_blkN <| p_seqN <| v_ops <| s_pure (.int .i64 ((k : Int) + 1)) (fun _ q => ArithVC.mk (by omega) q) <| s_pq (.int .i64 ((k : Int) + 1)) <| s_nil ?_
  exact p_lpN ⟨k + 1, i, ⟨rfl, rfl, rfl, rfl, rfl, rfl, rfl, rfl⟩, ⟨Eh, bxb1, s_w, s_y, (by first | exact ⟨by omega, by omega, hle.keepD (by assumption) (by assumption)⟩ | exact ⟨by omega, by omega, hle.keepN (by assumption) (by assumption)⟩ | exact ⟨by omega, by omega, hle.take2 (by assumption) (by assumption) (by assumption) (by assumption) (by first | exact .inl (by assumption) | exact .inr ⟨_, by assumption, by assumption⟩)⟩ | exact ⟨by omega, by omega, hle.keepL (by assumption) (by assumption) (by assumption) (by assumption)⟩)⟩, by omega⟩
 refine v_exit <| p_seqX <| p_lpX <| p_blkX <| p_seqN <| v_seq <| v_seq <| v_ops <| s_pq (.int .i64 i) <| s_pq (.bool (decide (i < 0))) <| s_nil <| p_seqN ?_
 refine v_cond rfl (fun c58 => ?_) (fun c58 => ?_)
 ·
  refine v_seq <| v_ops <| s_pq w <| s_pq w <| s_nil <| p_seqN <| v_ret <| p_seqR <| p_blkR <| p_lpR <| p_blkR <| p_ret [w] w (fun _ q => q) rfl ?_
  have ho : (arrOf n l a t) = o := by exact (arrOf_eq hn ha ht.1 (hdj.arr hn (by omega) hle (by omega))).symm
  exact ⟨w, by first | (rw [ho]; done) | rfl, sl_eq s_w (congrArg (fun o => o) ho).symm, fr_w.mono (by omega), Eh⟩
 refine v_skip <| p_seqN <| v_seq <| v_ops <| s_pq y <| s_pq (.int .i64 i) ?_
 have hk59 : (i).toNat < d.length := (by first | omega | (simp; omega))
 obtain ⟨x60, hx60⟩ : ∃ x, d[(i).toNat]? = some x := ⟨_, List.getElem?_eq_getElem hk59⟩
 refine s_pure (.pointer (some ⟨sblk y, soff y + ((i).toNat) * 1, none⟩)) (fun _ q => s_y.idx (k := (i).toNat) (by omega) hk59 q) ?_
 refine s_stSl (k := (i).toNat) (j := 0) true (.bool true) [.bool true] s_y rfl rfl rfl rfl rfl hx60 (Nat.le_of_ble_eq_true rfl) rfl (all_cons rfl all_nil) (fun h61 mh61 sh61 s62 => ?_)
 have E63 := Eh.mod mh61 (fun b hb => by have := fr_y b hb; omega)
 refine s_nil <| p_seqN <| v_seq <| v_ops <| s_pq (.pointer (some ⟨b1, 1, none⟩)) ?_
 have f64 := (bxb1.mod mh61 np_b1_y)
 refine s_load v_n_links (fun _ q => f64.load rfl q) <| s_pure (.int .i64 (n.links.length : Int)) (fun _ q => f45.lenVC q) <| s_pq (.int .i64 0) <| s_nil <| p_seqN <| v_block ?_
 have f66 := (s_w.mod mh61 (fun b hb hc => np_y_w b hc hb))
 refine v_loop3 (α := Nat) (β := List Int) (γ := Value) (fun k2 o2 w2 => [(1, v_l), (4, .pointer (some ⟨b1, 0, none⟩)), (9, w2), (10, y), (11, .int .i64 i), (72, v_n_links), (73, .int .i64 (n.links.length : Int)), (74, .int .i64 (k2 : Int))]) (fun k2 o2 w2 hh => Ext h hh ∧ Bx hh b1 [v_n_towers, v_n_links] 26 ∧ SlO hh w2 o2 ∧ Fr h.size w2 ∧ SlO hh y (d.set ((i).toNat) true) ∧ b1 ∉ blks w2 ∧ (∀ b ∈ blks y, b ∉ blks w2) ∧ k2 ≤ n.links.length ∧ ∃ u, DijR n l a t o2 (d.set i.toNat true) i.toNat u k2) (fun k2 o2 w2 => n.links.length - k2) 0 o w ⟨rfl, rfl, rfl, rfl, rfl, rfl, rfl, rfl⟩ ⟨E63, f64, (sl_eq f66 (by simp)), (fr_w.mono (by omega)), s62, np_b1_w, np_y_w, (by exact ⟨by omega, hdj.pick2 (by omega) hle (by omega)⟩)⟩ ?_
 rintro k2 o2 w2 R67 h65 ⟨Eh, bxb1, s_w2, fr_w2, s_y, np_b1_w2, np_y_w2, ⟨hk2, u, hr⟩⟩
 have zEh := Eh.size
 have f69 := s_n_towers.ext Eh
 have f70 := s_n_links.ext Eh
 have f71 := s_l.ext Eh
 have lbb1 := bxb1.lt
 have ltk_y := s_y.lt
 have lt_w2 := s_w2.lt
 have hol2 := hr.tms.len
 refine v_seq <| v_ops <| s_pq (.bool (decide ((k2 : Int) < (n.links.length : Int)))) <| s_nil <| p_seqN <| v_seq ?_
 refine v_cond rfl (fun c72 => ?_) (fun c72 => ?_)
 ·
  refine v_skip <| p_seqN <| v_seq <| v_block <| v_seq <| v_ops <| s_pq (.int .i64 (k2 : Int)) ?_
  have hk73 : k2 < n.links.length := (by first | omega | (simp; omega))
  obtain ⟨x74, hx74⟩ : ∃ x, n.links[k2]? = some x := ⟨_, List.getElem?_eq_getElem hk73⟩
  refine s_pure (.pointer (some ⟨sblk v_n_links, soff v_n_links + k2 * 3, none⟩)) (fun _ q => f70.idx (k := k2) rfl hk73 q) <| s_load (.agg #[.int .i64 x74.a, .int .i64 x74.b, .int .i64 x74.delay]) (fun _ q => f70.loadN hx74 rfl q) ?_
  refine s_new (fun h76 b75 hbb75 hzb75 eh76 bxb75 => ?_)
  have E77 := Eh.trans eh76
  have z78 := eh76.size
  have lbb75 := bxb75.lt
  refine s_pq (.int .i64 (k2 : Int)) ?_
  refine s_stBx (.agg #[.int .i64 x74.a, .int .i64 x74.b, .int .i64 x74.delay]) [.int .i64 x74.a, .int .i64 x74.b, .int .i64 x74.delay] [.int .i64 x74.a, .int .i64 x74.b, .int .i64 x74.delay] bxb75 rfl rfl rfl rfl (by simp) (all_cons rfl (all_cons rfl (all_cons rfl all_nil))) rfl (fun h79 mh79 sh79 bxx80 => ?_)
  have E81 := E77.mod mh79 (fun b hb => by simp at hb; omega)
  refine s_nil <| p_seqN <| v_seq <| v_ops <| s_load (.agg #[.int .i64 x74.a, .int .i64 x74.b, .int .i64 x74.delay]) (fun _ q => bxx80.loadA rfl q) <| s_pq (.int .i64 i) <| s_call [.agg #[.int .i64 x74.a, .int .i64 x74.b, .int .i64 x74.delay], .int .i64 i] rfl (spec_roOther_ok x74 i _ ) ?_
  rintro _ h82 ⟨rfl, eh82⟩
  have E83 := E81.trans eh82
  have z84 := eh82.size
  refine s_pq (.int .i64 (othr x74 i)) <| s_nil <| p_seqN <| v_seq <| v_seq <| v_ops <| s_pq (.int .i64 (othr x74 i)) <| s_pq (.bool (decide ((othr x74 i) < 0))) <| s_nil <| p_seqN ?_
  refine v_cond rfl (fun c85 => ?_) (fun c85 => ?_)
  ·
   refine v_exit <| p_seqX <| p_blkX <| p_seqN <| v_ops <| s_pure (.int .i64 ((k2 : Int) + 1)) (fun _ q => ArithVC.mk (by omega) q) <| s_pq (.int .i64 ((k2 : Int) + 1)) <| s_nil ?_
   have f86 := (((bxb1.ext eh76).mod mh79 (by simp; omega)).ext eh82)
   have f87 := (((s_w2.ext eh76).mod mh79 (fun b hb hc => by simp at hc; have := lt_w2 b hb; omega)).ext eh82)
   have f88 := (((s_y.ext eh76).mod mh79 (fun b hb hc => by simp at hc; have := ltk_y b hb; have := lt_y b hb; omega)).ext eh82)
   exact p_lpN ⟨k2 + 1, o2, w2, ⟨rfl, rfl, rfl, rfl, rfl, rfl, rfl, rfl⟩, ⟨E83, f86, (sl_eq f87 (by simp)), (fr_w2.mono (by omega)), f88, np_b1_w2, np_y_w2, (by first | exact ⟨by omega, _, hr.skip2 hn (by omega) (by assumption) (by assumption)⟩ | exact ⟨by omega, _, hr.set2 hf hn (by omega) (by omega) (by assumption : n.links[k2]? = some _) (by assumption) (by assumption : o2[i.toNat]? = some _) (by assumption) (by omega)⟩ | exact ⟨by omega, _, hr.keep2 hn (by omega) (by assumption : n.links[k2]? = some _) (by assumption) (by assumption : o2[i.toNat]? = some _) (by assumption) (by assumption) (by assumption)⟩)⟩, by omega⟩
  refine v_skip <| p_seqN <| v_seq <| v_drawF <| d_pq v_l <| d_pq (.int .i64 (k2 : Int)) <| d_pq w2 <| d_pq (.int .i64 i) ?_
  have f89 := (((s_w2.ext eh76).mod mh79 (fun b hb hc => by simp at hc; have := lt_w2 b hb; omega)).ext eh82)
  have hk90 : (i).toNat < o2.length := (by first | omega | (simp; omega))
  obtain ⟨x91, hx91⟩ : ∃ x, o2[(i).toNat]? = some x := ⟨_, List.getElem?_eq_getElem hk90⟩
  refine d_pureT (.pointer (some ⟨sblk w2, soff w2 + ((i).toNat) * 1, none⟩)) (fun _ q => f89.idx (k := (i).toNat) (by omega) hk90 q) ?_
  have f92 := (((bxb1.ext eh76).mod mh79 (by simp; omega)).ext eh82)
  refine d_loadO (.agg #[v_n_towers, v_n_links]) (fun _ q => f92.loadA rfl q) <| d_loadO (.int .i64 x91) (fun _ q => f89.load1 hx91 rfl q) <| d_eff ?_
  have f93 := (((f69.ext eh76).mod mh79 (fun b hb hc => by simp at hc; have := lt_n_towers b hb; omega)).ext eh82)
  have f94 := (((f70.ext eh76).mod mh79 (fun b hb hc => by simp at hc; have := lt_n_links b hb; omega)).ext eh82)
  have f95 := (((f71.ext eh76).mod mh79 (fun b hb hc => by simp at hc; have := lt_l b hb; omega)).ext eh82)
  refine s_call [.agg #[v_n_towers, v_n_links], v_l, .int .i64 (k2 : Int), .int .i64 x91] rfl (spec_roOver_ok n v_n_towers v_n_links v_l l (k2 : Int) x91 _ f93 f94 f95 m hn hf (by omega) (hr.val hn (by assumption))) ?_
  rintro _ h96 ⟨rfl, eh96⟩
  have E97 := E83.trans eh96
  have z98 := eh96.size
  refine s_nil ⟨fun hl => (by cases hl), ?_⟩
  refine d_pq (.int .i64 (over l (k2 : Int) (lk n (k2 : Int)) x91)) <| d_done <| p_seqN <| v_seq <| v_ops <| s_pq w2 <| s_pq (.int .i64 (othr x74 i)) ?_
  have f100 := (f89.ext eh96)
  have hk101 : ((othr x74 i)).toNat < o2.length := (by have := othr_bd (hn.at hx74) i; omega)
  obtain ⟨x102, hx102⟩ : ∃ x, o2[((othr x74 i)).toNat]? = some x := ⟨_, List.getElem?_eq_getElem hk101⟩
  refine s_pure (.pointer (some ⟨sblk w2, soff w2 + (((othr x74 i)).toNat) * 1, none⟩)) (fun _ q => f100.idx (k := ((othr x74 i)).toNat) (by omega) hk101 q) <| s_load (.int .i64 x102) (fun _ q => f100.load1 hx102 rfl q) <| s_pq (.bool (decide (x102 < 0))) <| s_pq (.bool (decide (x102 < 0))) ?_
  refine s_splitT rfl (fun c103 => ?_) (fun c103 => ?_)
  ·
   refine s_pass rfl <| s_pass rfl <| s_pass rfl <| s_pass rfl <| s_pass rfl <| s_pass rfl <| s_pq (.bool true) <| s_nil <| p_seqN <| v_condY rfl rfl <| v_ops <| s_pq w2 <| s_pq (.int .i64 (othr x74 i)) <| s_pq (.int .i64 (over l (k2 : Int) (lk n (k2 : Int)) x91)) <| s_pure (.pointer (some ⟨sblk w2, soff w2 + (((othr x74 i)).toNat) * 1, none⟩)) (fun _ q => f100.idx (k := ((othr x74 i)).toNat) (by omega) hk101 q) ?_
   refine s_stSl (k := ((othr x74 i)).toNat) (j := 0) (over l (k2 : Int) (lk n (k2 : Int)) x91) (.int .i64 (over l (k2 : Int) (lk n (k2 : Int)) x91)) [.int .i64 (over l (k2 : Int) (lk n (k2 : Int)) x91)] f100 rfl rfl rfl rfl rfl hx102 (Nat.le_of_ble_eq_true rfl) rfl (all_cons rfl all_nil) (fun h104 mh104 sh104 s105 => ?_)
   have E106 := E97.mod mh104 (fun b hb => by have := fr_w2 b hb; omega)
   refine s_nil <| p_blkN <| p_seqN <| v_ops <| s_pure (.int .i64 ((k2 : Int) + 1)) (fun _ q => ArithVC.mk (by omega) q) <| s_pq (.int .i64 ((k2 : Int) + 1)) <| s_nil ?_
   have f107 := ((f92.ext eh96).mod mh104 np_b1_w2)
   have f108 := (((((s_y.ext eh76).mod mh79 (fun b hb hc => by simp at hc; have := ltk_y b hb; have := lt_y b hb; omega)).ext eh82).ext eh96).mod mh104 np_y_w2)
   exact p_lpN ⟨k2 + 1, (o2.set (((othr x74 i)).toNat) (over l (k2 : Int) (lk n (k2 : Int)) x91)), w2, ⟨rfl, rfl, rfl, rfl, rfl, rfl, rfl, rfl⟩, ⟨E106, f107, (sl_eq s105 (by simp)), (fr_w2.mono (by omega)), f108, np_b1_w2, np_y_w2, (by first | exact ⟨by omega, _, hr.skip2 hn (by omega) (by assumption) (by assumption)⟩ | exact ⟨by omega, _, hr.set2 hf hn (by omega) (by omega) (by assumption : n.links[k2]? = some _) (by assumption) (by assumption : o2[i.toNat]? = some _) (by assumption) (by omega)⟩ | exact ⟨by omega, _, hr.keep2 hn (by omega) (by assumption : n.links[k2]? = some _) (by assumption) (by assumption : o2[i.toNat]? = some _) (by assumption) (by assumption) (by assumption)⟩)⟩, by omega⟩
  refine s_run rfl <| s_pq (.int .i64 (over l (k2 : Int) (lk n (k2 : Int)) x91)) <| s_run rfl <| s_pq w2 <| s_run rfl <| s_pq (.int .i64 (othr x74 i)) <| s_run rfl <| s_pure (.pointer (some ⟨sblk w2, soff w2 + (((othr x74 i)).toNat) * 1, none⟩)) (fun _ q => f100.idx (k := ((othr x74 i)).toNat) (by omega) hk101 q) <| s_run rfl <| s_load (.int .i64 x102) (fun _ q => f100.load1 hx102 rfl q) <| s_run rfl <| s_pq (.bool (decide ((over l (k2 : Int) (lk n (k2 : Int)) x91) < x102))) <| s_pq (.bool (decide ((over l (k2 : Int) (lk n (k2 : Int)) x91) < x102))) ?_
  refine s_nil <| p_seqN ?_
  refine v_cond rfl (fun c109 => ?_) (fun c109 => ?_)
  ·
   refine v_ops <| s_pq w2 <| s_pq (.int .i64 (othr x74 i)) <| s_pq (.int .i64 (over l (k2 : Int) (lk n (k2 : Int)) x91)) <| s_pure (.pointer (some ⟨sblk w2, soff w2 + (((othr x74 i)).toNat) * 1, none⟩)) (fun _ q => f100.idx (k := ((othr x74 i)).toNat) (by omega) hk101 q) ?_
   refine s_stSl (k := ((othr x74 i)).toNat) (j := 0) (over l (k2 : Int) (lk n (k2 : Int)) x91) (.int .i64 (over l (k2 : Int) (lk n (k2 : Int)) x91)) [.int .i64 (over l (k2 : Int) (lk n (k2 : Int)) x91)] f100 rfl rfl rfl rfl rfl hx102 (Nat.le_of_ble_eq_true rfl) rfl (all_cons rfl all_nil) (fun h110 mh110 sh110 s111 => ?_)
   have E112 := E97.mod mh110 (fun b hb => by have := fr_w2 b hb; omega)
   refine s_nil <| p_blkN <| p_seqN <| v_ops <| s_pure (.int .i64 ((k2 : Int) + 1)) (fun _ q => ArithVC.mk (by omega) q) <| s_pq (.int .i64 ((k2 : Int) + 1)) <| s_nil ?_
   have f113 := ((f92.ext eh96).mod mh110 np_b1_w2)
   have f114 := (((((s_y.ext eh76).mod mh79 (fun b hb hc => by simp at hc; have := ltk_y b hb; have := lt_y b hb; omega)).ext eh82).ext eh96).mod mh110 np_y_w2)
   exact p_lpN ⟨k2 + 1, (o2.set (((othr x74 i)).toNat) (over l (k2 : Int) (lk n (k2 : Int)) x91)), w2, ⟨rfl, rfl, rfl, rfl, rfl, rfl, rfl, rfl⟩, ⟨E112, f113, (sl_eq s111 (by simp)), (fr_w2.mono (by omega)), f114, np_b1_w2, np_y_w2, (by first | exact ⟨by omega, _, hr.skip2 hn (by omega) (by assumption) (by assumption)⟩ | exact ⟨by omega, _, hr.set2 hf hn (by omega) (by omega) (by assumption : n.links[k2]? = some _) (by assumption) (by assumption : o2[i.toNat]? = some _) (by assumption) (by omega)⟩ | exact ⟨by omega, _, hr.keep2 hn (by omega) (by assumption : n.links[k2]? = some _) (by assumption) (by assumption : o2[i.toNat]? = some _) (by assumption) (by assumption) (by assumption)⟩)⟩, by omega⟩
  refine v_skip <| p_blkN <| p_seqN <| v_ops <| s_pure (.int .i64 ((k2 : Int) + 1)) (fun _ q => ArithVC.mk (by omega) q) <| s_pq (.int .i64 ((k2 : Int) + 1)) <| s_nil ?_
  have f115 := (f92.ext eh96)
  have f116 := ((((s_y.ext eh76).mod mh79 (fun b hb hc => by simp at hc; have := ltk_y b hb; have := lt_y b hb; omega)).ext eh82).ext eh96)
  exact p_lpN ⟨k2 + 1, o2, w2, ⟨rfl, rfl, rfl, rfl, rfl, rfl, rfl, rfl⟩, ⟨E97, f115, (sl_eq f100 (by simp)), (fr_w2.mono (by omega)), f116, np_b1_w2, np_y_w2, (by first | exact ⟨by omega, _, hr.skip2 hn (by omega) (by assumption) (by assumption)⟩ | exact ⟨by omega, _, hr.set2 hf hn (by omega) (by omega) (by assumption : n.links[k2]? = some _) (by assumption) (by assumption : o2[i.toNat]? = some _) (by assumption) (by omega)⟩ | exact ⟨by omega, _, hr.keep2 hn (by omega) (by assumption : n.links[k2]? = some _) (by assumption) (by assumption : o2[i.toNat]? = some _) (by assumption) (by assumption) (by assumption)⟩)⟩, by omega⟩
 refine v_exit <| p_seqX <| p_lpX <| p_blkX <| p_blkN ?_
 exact p_lpN ⟨o2, (d.set ((i).toNat) true), w2, y, ⟨rfl, rfl, rfl, rfl⟩, ⟨Eh, bxb1, (sl_eq s_w2 (by simp)), (fr_w2.mono (by omega)), (sl_eq s_y (by simp)), (fr_y.mono (by omega)), np_b1_w2, np_y_w2, np_b1_y, (by exact hr.ends (by omega))⟩, by exact undone_set (hle.yes (by omega)).2.1⟩

end Go.Proofs.Ytgbaonaopkdlpaa



/- Prefixes of own slices, appending within the room, and clearing behind the end: what slices.Delete does. Condition: none. -/
namespace Go.Vc
set_option linter.all false
section
variable {α : Type} [Enc α] {own : Bool} {h : Heap} {v : Value} {xs : List α}
theorem SlX.cap {a : Option Addr} {n c : Nat} (hs : SlX own h (.slice a n c) xs) : n = xs.length ∧ xs.length ≤ c := by
  obtain ⟨a', c', hv, hs⟩ := hs
  simp only [Value.slice.injEq] at hv
  obtain ⟨rfl, rfl, rfl⟩ := hv
  refine ⟨rfl, ?_⟩
  rcases hs with ⟨rfl, rfl⟩ | ⟨ad, _, _, _, h2, _⟩
  · simp
  · exact h2
theorem addr_same {a : Option Addr} {c : Nat} : (if c = 0 then a else a.map (·.add 0)) = a := by
  split
  · rfl
  · cases a with
    | none => rfl
    | some a =>
      obtain ⟨b, o, s⟩ := a
      cases s <;> rfl
/-- a prefix of an own slice is its own, with the same room -/
theorem SlX.front {a : Option Addr} {n c : Nat} (hs : SlX own h (.slice a n c) xs) {m : Nat} (hm : m ≤ xs.length) {sz : Nat} :
    SlX own h (.slice a m c) (xs.take m) ∧ ∀ {k : IntKind} {K : Value → Prop}, K (.slice a m c) → SlcVC sz (.slice a n c) none (some (.int k (m : Int))) none K := by
  obtain ⟨hn, hc⟩ := hs.cap
  refine ⟨?_, fun {k K} hk => ⟨a, n, c, 0, m, c, rfl, Nat.zero_le _, by omega, Nat.le_refl _, rfl, ⟨_, rfl⟩, rfl, ?_⟩⟩
  · obtain ⟨a', c', hv, hs⟩ := hs
    simp only [Value.slice.injEq] at hv
    obtain ⟨rfl, rfl, rfl⟩ := hv
    have hl : (xs.take m).length = m := by simp; omega
    refine ⟨a, c, by rw [hl], ?_⟩
    rcases hs with ⟨rfl, rfl⟩ | ⟨ad, h0, h1, h2, h3, h4, C, T, fz, h5, h6, h7, h8⟩
    · left; simp
    · right
      refine ⟨ad, h0, h1, h2, by omega, h4, C, T, fz, h5, h6, h7, ?_⟩
      have hle : m * Enc.sz α ≤ xs.length * Enc.sz α := Nat.mul_le_mul_right _ hm
      rw [hl, flat_take, ← h8, List.take_take, Nat.min_eq_left hle]
  · simp only [Nat.zero_mul, Nat.sub_zero]
    rw [addr_same]; exact hk
end
end Go.Vc



/- First arrivals, the latest start, nets without a link. Condition: none. Printed in part by a program. -/
namespace Go.Proofs.Ytgbaonaopkdlpaa
open Go.Vc
set_option linter.all false

theorem gI_at {out : List Int} {b x : Int} (h : out[b.toNat]? = some x) : gI out b = x := by simp [gI, h]
theorem first_ask {n : NetP} {l : List FogD} {a b t : Int} (h : (firstOf n l a b t).2 = true) : WayAsk n l a b t ∧ 0 ≤ gI (arrOf n l a t) b := by
  unfold firstOf at h
  split at h
  · assumption
  · cases h
theorem first_most {n : NetP} {l : List FogD} {a b t x : Int} (h : WayAsk n l a b t) (hx : (arrOf n l a t)[b.toNat]? = some x) : firstOf n l a b t = (if x > 0 then x else 0, decide (x ≥ 0)) := by
  have e := gI_at hx
  by_cases h0 : 0 ≤ x
  · rw [first_yes h (by omega), e, decide_eq_true h0]
    congr 1; split <;> omega
  · rw [first_neg (by omega), decide_eq_false (by omega), if_neg (by omega)]
theorem fogDelay_no {n : NetP} {l : List FogD} {a b t : Int} (h : ¬ (firstOf n l a b t).2 = true) : fogDelay n l a b t = (0, false) := by rw [fogDelay, if_neg h]
theorem fogDelay_yes {n : NetP} {l : List FogD} {a b t : Int} (h : (firstOf n l a b t).2 = true) : fogDelay n l a b t = ((firstOf n l a b t).1 - t - (firstOf n [] a b 0).1, true) := by rw [fogDelay, if_pos h]
theorem fogDelay_bd {n : NetP} {l : List FogD} {a b t : Int} (h : (firstOf n l a b t).2 = true) : (-10000 ≤ (firstOf n l a b t).1 - t ∧ (firstOf n l a b t).1 - t ≤ 10960) ∧ 0 ≤ (firstOf n [] a b 0).1 ∧ (firstOf n [] a b 0).1 ≤ 10960 := by
 have h1 := first_bd n l a b t
 have h2 := first_bd n [] a b 0
 have h3 := (first_ask h).1.ht
 omega
theorem latest_no {n : NetP} {l : List FogD} {a b t : Int} (h : ¬ WayAsk n l a b t) : latest n l a b t = (0, false) := by rw [latest, if_neg fun hc => h hc.1]
theorem latest_no2 {n : NetP} {l : List FogD} {a b t x : Int} (hx : (arrOf n l a 0)[b.toNat]? = some x) (h : x < 0 ∨ x > t) : latest n l a b t = (0, false) := by
 have e := gI_at hx
 rw [latest, if_neg fun hc => by omega]
theorem latest_yes {n : NetP} {l : List FogD} {a b t x lo : Int} (hw : WayAsk n l a b t) (hx : (arrOf n l a 0)[b.toNat]? = some x) (h0 : ¬ x < 0) (h1 : ¬ x > t) (hl : lo = lateOf n l a b t) : latest n l a b t = (lo, true) := by
 have e := gI_at hx
 rw [latest, if_pos ⟨hw, by omega, by omega⟩, hl]
noncomputable def arrsFrom (n : NetP) (l : List FogD) (a t : Int) : List Int × Bool := if WayAsk n l a a t then (arrOf n l a t, true) else ([], false)
theorem arrs_no {n : NetP} {l : List FogD} {a t : Int} (h : ¬ WayAsk n l a a t) : arrsFrom n l a t = ([], false) := by rw [arrsFrom, if_neg h]
theorem arrs_yes {n : NetP} {l : List FogD} {a t : Int} (h : WayAsk n l a a t) : arrsFrom n l a t = (arrOf n l a t, true) := by rw [arrsFrom, if_pos h]
theorem spec_l1Most_ok (a : Int) (b : Int) (h : Heap)  : Cn f_spec_l1Most [.int .i64 a, .int .i64 b] h fun v h' => v = .int .i64 (if a > b then a else b) ∧ h' = h := by
 refine calls_of r_spec_l1Most ?_
 refine v_seq <| v_ops <| s_pq (.int .i64 0) <| s_nil <| p_seqN <| v_seq <| v_seq <| v_ops <| s_pq (.int .i64 a) <| s_pq (.int .i64 b) <| s_pq (.bool (decide (a > b))) <| s_nil <| p_seqN ?_
 refine v_cond rfl (fun c1 => ?_) (fun c1 => ?_)
 ·
  refine v_seq <| v_ops <| s_pq (.int .i64 a) <| s_pq (.int .i64 a) <| s_nil <| p_seqN <| v_ret <| p_seqR <| p_ret [.int .i64 a] (.int .i64 a) (fun _ q => q) rfl ?_
  have ho : (if a > b then a else b) = a := by simp [*]
  exact ⟨by first | (rw [ho]; done) | rfl, rfl⟩
 refine v_skip <| p_seqN <| v_seq <| v_ops <| s_pq (.int .i64 b) <| s_pq (.int .i64 b) <| s_nil <| p_seqN <| v_ret <| p_ret [.int .i64 b] (.int .i64 b) (fun _ q => q) rfl ?_
 have ho : (if a > b then a else b) = b := by simp [*]
 exact ⟨by first | (rw [ho]; done) | rfl, rfl⟩

theorem impl_wayAsked_ok (n : NetP) (v_n_towers : Value) (v_n_links : Value) (v_l : Value) (l : List FogD) (a : Int) (b : Int) (t : Int) (h : Heap) (s_n_towers : Sl h v_n_towers n.towers) (s_n_links : Sl h v_n_links n.links) (s_l : Sl h v_l l) : Cn f_impl_wayAsked [.agg #[v_n_towers, v_n_links], v_l, .int .i64 a, .int .i64 b, .int .i64 t] h fun v h' => v = .bool (decide (WayAsk n l a b t)) ∧ Ext h h' := by
 have l63_n_towers := s_n_towers.len63
 have l63_n_links := s_n_links.len63
 have l63_l := s_l.len63
 refine calls_of r_impl_wayAsked ?_
 refine v_seq <| v_ops ?_
 refine s_box [v_n_towers, v_n_links] rfl (fun h2 b1 hbb1 hzb1 eh2 bxb1 => ?_)
 have E3 := (Ext.refl h).trans eh2
 have z4 := eh2.size
 have lbb1 := bxb1.lt
 refine s_pq (.bool false) <| s_nil <| p_seqN <| v_seq <| v_ops <| s_load (.agg #[v_n_towers, v_n_links]) (fun _ q => bxb1.loadA rfl q) <| s_pq (.int .i64 a) ?_
 have f5 := (s_n_towers.ext eh2)
 have f6 := (s_n_links.ext eh2)
 refine s_call [.agg #[v_n_towers, v_n_links], .int .i64 a] rfl (impl_isTower_ok n v_n_towers v_n_links a _ f5 f6) ?_
 rintro _ h7 ⟨rfl, eh7⟩
 have E8 := E3.trans eh7
 have z9 := eh7.size
 refine s_pq (.bool (decide (NetOk n ∧ (0 ≤ a ∧ a ≤ (n.towers.length : Int) - 1)))) ?_
 refine s_splitT rfl (fun c10 => ?_) (fun c10 => ?_)
 ·
  refine s_run rfl ?_
  have f11 := (bxb1.ext eh7)
  refine s_load (.agg #[v_n_towers, v_n_links]) (fun _ q => f11.loadA rfl q) <| s_run rfl <| s_pq (.int .i64 b) <| s_run rfl ?_
  have f12 := (f5.ext eh7)
  have f13 := (f6.ext eh7)
  refine s_call [.agg #[v_n_towers, v_n_links], .int .i64 b] rfl (impl_isTower_ok n v_n_towers v_n_links b _ f12 f13) ?_
  rintro _ h14 ⟨rfl, eh14⟩
  have E15 := E8.trans eh14
  have z16 := eh14.size
  refine s_pq (.bool (decide (NetOk n ∧ (0 ≤ b ∧ b ≤ (n.towers.length : Int) - 1)))) <| s_pq (.bool (decide (NetOk n ∧ (0 ≤ b ∧ b ≤ (n.towers.length : Int) - 1)))) ?_
  refine s_splitT rfl (fun c17 => ?_) (fun c17 => ?_)
  ·
   refine s_run rfl ?_
   have f18 := (f11.ext eh14)
   refine s_load (.agg #[v_n_towers, v_n_links]) (fun _ q => f18.loadA rfl q) <| s_run rfl <| s_pq v_l <| s_run rfl ?_
   have f19 := (f12.ext eh14)
   have f20 := (f13.ext eh14)
   have f21 := (((s_l.ext eh2).ext eh7).ext eh14)
   refine s_call [.agg #[v_n_towers, v_n_links], v_l] rfl (impl_areFogs_ok n v_n_towers v_n_links v_l l _ f19 f20 f21) ?_
   rintro _ h22 ⟨rfl, eh22⟩
   have E23 := E15.trans eh22
   have z24 := eh22.size
   refine s_pq (.bool (decide (FogsOk n.links.length l))) <| s_pq (.bool (decide (FogsOk n.links.length l))) ?_
   refine s_splitT rfl (fun c25 => ?_) (fun c25 => ?_)
   ·
    refine s_run rfl <| s_pq (.int .i64 t) <| s_run rfl <| s_callS [.int .i64 t, .int .i64 0, .int .i64 10000] (.bool (decide (0 ≤ t ∧ t ≤ 10000))) rfl (within_ok t 0 10000 _ ) <| s_pq (.bool (decide (0 ≤ t ∧ t ≤ 10000))) <| s_pq (.bool (decide (0 ≤ t ∧ t ≤ 10000))) <| s_nil <| p_seqN <| v_ret <| p_ret [.bool (decide (0 ≤ t ∧ t ≤ 10000))] (.bool (decide (0 ≤ t ∧ t ≤ 10000))) (fun _ q => q) rfl ?_
    have ho : (decide (WayAsk n l a b t)) = (decide (0 ≤ t ∧ t ≤ 10000)) := by rw [Bool.eq_iff_iff]; simp only [wayAsk_iff, decide_eq_true_eq, Bool.false_eq_true, iff_false, false_iff, iff_true, true_iff]; first | omega | (simp_all; done) | grind
    exact ⟨by first | (rw [ho]; done) | rfl, E23⟩
   refine s_pass rfl <| s_pass rfl <| s_pq (.bool false) <| s_pq (.bool false) <| s_nil <| p_seqN <| v_ret <| p_ret [.bool false] (.bool false) (fun _ q => q) rfl ?_
   have ho : (decide (WayAsk n l a b t)) = false := by rw [Bool.eq_iff_iff]; simp only [wayAsk_iff, decide_eq_true_eq, Bool.false_eq_true, iff_false, false_iff, iff_true, true_iff]; first | omega | (simp_all; done) | grind
   exact ⟨by first | (rw [ho]; done) | rfl, E23⟩
  refine s_pass rfl <| s_pass rfl <| s_pass rfl <| s_pq (.bool false) <| s_pq (.bool false) <| s_splitN rfl (by simp) <| s_pass rfl <| s_pass rfl <| s_pq (.bool false) <| s_pq (.bool false) <| s_nil <| p_seqN <| v_ret <| p_ret [.bool false] (.bool false) (fun _ q => q) rfl ?_
  have ho : (decide (WayAsk n l a b t)) = false := by rw [Bool.eq_iff_iff]; simp only [wayAsk_iff, decide_eq_true_eq, Bool.false_eq_true, iff_false, false_iff, iff_true, true_iff]; first | omega | (simp_all; done) | grind
  exact ⟨by first | (rw [ho]; done) | rfl, E15⟩
 refine s_pass rfl <| s_pass rfl <| s_pass rfl <| s_pq (.bool false) <| s_pq (.bool false) <| s_splitN rfl (by simp) <| s_pass rfl <| s_pass rfl <| s_pass rfl <| s_pq (.bool false) <| s_pq (.bool false) <| s_splitN rfl (by simp) <| s_pass rfl <| s_pass rfl <| s_pq (.bool false) <| s_pq (.bool false) <| s_nil <| p_seqN <| v_ret <| p_ret [.bool false] (.bool false) (fun _ q => q) rfl ?_
 have ho : (decide (WayAsk n l a b t)) = false := by rw [Bool.eq_iff_iff]; simp only [wayAsk_iff, decide_eq_true_eq, Bool.false_eq_true, iff_false, false_iff, iff_true, true_iff]; first | omega | (simp_all; done) | grind
 exact ⟨by first | (rw [ho]; done) | rfl, E8⟩

theorem spec_roGood_ok (n : NetP) (v_n_towers : Value) (v_n_links : Value) (v_l : Value) (l : List FogD) (t : Int) (h : Heap) (s_n_towers : Sl h v_n_towers n.towers) (s_n_links : Sl h v_n_links n.links) (s_l : Sl h v_l l) : Cn f_spec_roGood [.agg #[v_n_towers, v_n_links], v_l, .int .i64 t] h fun v h' => v = .bool (decide (NetOk n ∧ FogsOk n.links.length l ∧ (0 ≤ t ∧ t ≤ 10000))) ∧ Ext h h' := by
 have l63_n_towers := s_n_towers.len63
 have l63_n_links := s_n_links.len63
 have l63_l := s_l.len63
 refine calls_of r_spec_roGood ?_
 refine v_seq <| v_ops ?_
 refine s_box [v_n_towers, v_n_links] rfl (fun h2 b1 hbb1 hzb1 eh2 bxb1 => ?_)
 have E3 := (Ext.refl h).trans eh2
 have z4 := eh2.size
 have lbb1 := bxb1.lt
 refine s_pq (.bool false) <| s_nil <| p_seqN <| v_seq <| v_ops <| s_load (.agg #[v_n_towers, v_n_links]) (fun _ q => bxb1.loadA rfl q) ?_
 have f5 := (s_n_towers.ext eh2)
 have f6 := (s_n_links.ext eh2)
 refine s_call [.agg #[v_n_towers, v_n_links]] rfl (spec_neGood_ok n v_n_towers v_n_links _ f5 f6) ?_
 rintro _ h7 ⟨rfl, eh7⟩
 have E8 := E3.trans eh7
 have z9 := eh7.size
 refine s_pq (.bool (decide (NetOk n))) ?_
 refine s_splitT rfl (fun c10 => ?_) (fun c10 => ?_)
 ·
  refine s_run rfl ?_
  have f11 := (bxb1.ext eh7)
  refine s_load (.agg #[v_n_towers, v_n_links]) (fun _ q => f11.loadA rfl q) <| s_run rfl <| s_pq v_l <| s_run rfl ?_
  have f12 := (f5.ext eh7)
  have f13 := (f6.ext eh7)
  have f14 := ((s_l.ext eh2).ext eh7)
  refine s_call [.agg #[v_n_towers, v_n_links], v_l] rfl (spec_fgGood_ok n v_n_towers v_n_links v_l l _ f12 f13 f14) ?_
  rintro _ h15 ⟨rfl, eh15⟩
  have E16 := E8.trans eh15
  have z17 := eh15.size
  refine s_pq (.bool (decide (FogsOk n.links.length l))) <| s_pq (.bool (decide (FogsOk n.links.length l))) ?_
  refine s_splitT rfl (fun c18 => ?_) (fun c18 => ?_)
  ·
   refine s_run rfl <| s_pq (.int .i64 t) <| s_run rfl <| s_callS [.int .i64 t] (.bool (decide (0 ≤ t ∧ t ≤ 10000))) rfl (spec_fgTime_ok t _ ) <| s_pq (.bool (decide (0 ≤ t ∧ t ≤ 10000))) <| s_pq (.bool (decide (0 ≤ t ∧ t ≤ 10000))) <| s_nil <| p_seqN <| v_ret <| p_ret [.bool (decide (0 ≤ t ∧ t ≤ 10000))] (.bool (decide (0 ≤ t ∧ t ≤ 10000))) (fun _ q => q) rfl ?_
   have ho : (decide (NetOk n ∧ FogsOk n.links.length l ∧ (0 ≤ t ∧ t ≤ 10000))) = (decide (0 ≤ t ∧ t ≤ 10000)) := by simp [*]
   exact ⟨by first | (rw [ho]; done) | rfl, E16⟩
  refine s_pass rfl <| s_pass rfl <| s_pq (.bool false) <| s_pq (.bool false) <| s_nil <| p_seqN <| v_ret <| p_ret [.bool false] (.bool false) (fun _ q => q) rfl ?_
  have ho : (decide (NetOk n ∧ FogsOk n.links.length l ∧ (0 ≤ t ∧ t ≤ 10000))) = false := by simp [*]
  exact ⟨by first | (rw [ho]; done) | rfl, E16⟩
 refine s_pass rfl <| s_pass rfl <| s_pass rfl <| s_pq (.bool false) <| s_pq (.bool false) <| s_splitN rfl (by simp) <| s_pass rfl <| s_pass rfl <| s_pq (.bool false) <| s_pq (.bool false) <| s_nil <| p_seqN <| v_ret <| p_ret [.bool false] (.bool false) (fun _ q => q) rfl ?_
 have ho : (decide (NetOk n ∧ FogsOk n.links.length l ∧ (0 ≤ t ∧ t ≤ 10000))) = false := by simp [*]
 exact ⟨by first | (rw [ho]; done) | rfl, E8⟩

theorem spec_roAsked_ok (n : NetP) (v_n_towers : Value) (v_n_links : Value) (v_l : Value) (l : List FogD) (a : Int) (b : Int) (t : Int) (h : Heap) (s_n_towers : Sl h v_n_towers n.towers) (s_n_links : Sl h v_n_links n.links) (s_l : Sl h v_l l) : Cn f_spec_roAsked [.agg #[v_n_towers, v_n_links], v_l, .int .i64 a, .int .i64 b, .int .i64 t] h fun v h' => v = .bool (decide (WayAsk n l a b t)) ∧ Ext h h' := by
 have l63_n_towers := s_n_towers.len63
 have l63_n_links := s_n_links.len63
 have l63_l := s_l.len63
 refine calls_of r_spec_roAsked ?_
 refine v_seq <| v_ops ?_
 refine s_box [v_n_towers, v_n_links] rfl (fun h2 b1 hbb1 hzb1 eh2 bxb1 => ?_)
 have E3 := (Ext.refl h).trans eh2
 have z4 := eh2.size
 have lbb1 := bxb1.lt
 refine s_pq (.bool false) <| s_nil <| p_seqN <| v_seq <| v_ops <| s_load (.agg #[v_n_towers, v_n_links]) (fun _ q => bxb1.loadA rfl q) <| s_pq v_l <| s_pq (.int .i64 t) ?_
 have f5 := (s_n_towers.ext eh2)
 have f6 := (s_n_links.ext eh2)
 have f7 := (s_l.ext eh2)
 refine s_call [.agg #[v_n_towers, v_n_links], v_l, .int .i64 t] rfl (spec_roGood_ok n v_n_towers v_n_links v_l l t _ f5 f6 f7) ?_
 rintro _ h8 ⟨rfl, eh8⟩
 have E9 := E3.trans eh8
 have z10 := eh8.size
 refine s_pq (.bool (decide (NetOk n ∧ FogsOk n.links.length l ∧ (0 ≤ t ∧ t ≤ 10000)))) ?_
 refine s_splitT rfl (fun c11 => ?_) (fun c11 => ?_)
 ·
  refine s_run rfl ?_
  have f12 := (bxb1.ext eh8)
  refine s_load (.agg #[v_n_towers, v_n_links]) (fun _ q => f12.loadA rfl q) <| s_run rfl <| s_pq (.int .i64 a) <| s_run rfl ?_
  have f13 := (f5.ext eh8)
  have f14 := (f6.ext eh8)
  refine s_call [.agg #[v_n_towers, v_n_links], .int .i64 a] rfl (spec_roTower_ok n v_n_towers v_n_links a _ f13 f14) ?_
  rintro _ h15 ⟨rfl, eh15⟩
  have E16 := E9.trans eh15
  have z17 := eh15.size
  refine s_pq (.bool (decide (0 ≤ a ∧ a ≤ (n.towers.length : Int) - 1))) <| s_pq (.bool (decide (0 ≤ a ∧ a ≤ (n.towers.length : Int) - 1))) ?_
  refine s_splitT rfl (fun c18 => ?_) (fun c18 => ?_)
  ·
   refine s_run rfl ?_
   have f19 := (f12.ext eh15)
   refine s_load (.agg #[v_n_towers, v_n_links]) (fun _ q => f19.loadA rfl q) <| s_run rfl <| s_pq (.int .i64 b) <| s_run rfl ?_
   have f20 := (f13.ext eh15)
   have f21 := (f14.ext eh15)
   refine s_call [.agg #[v_n_towers, v_n_links], .int .i64 b] rfl (spec_roTower_ok n v_n_towers v_n_links b _ f20 f21) ?_
   rintro _ h22 ⟨rfl, eh22⟩
   have E23 := E16.trans eh22
   have z24 := eh22.size
   refine s_pq (.bool (decide (0 ≤ b ∧ b ≤ (n.towers.length : Int) - 1))) <| s_pq (.bool (decide (0 ≤ b ∧ b ≤ (n.towers.length : Int) - 1))) <| s_nil <| p_seqN <| v_ret <| p_ret [.bool (decide (0 ≤ b ∧ b ≤ (n.towers.length : Int) - 1))] (.bool (decide (0 ≤ b ∧ b ≤ (n.towers.length : Int) - 1))) (fun _ q => q) rfl ?_
   have ho : (decide (WayAsk n l a b t)) = (decide (0 ≤ b ∧ b ≤ (n.towers.length : Int) - 1)) := by rw [Bool.eq_iff_iff]; simp only [wayAsk_iff, decide_eq_true_eq, Bool.false_eq_true, iff_false, false_iff, iff_true, true_iff]; first | omega | (simp_all; done) | grind
   exact ⟨by first | (rw [ho]; done) | rfl, E23⟩
  refine s_pass rfl <| s_pass rfl <| s_pass rfl <| s_pq (.bool false) <| s_pq (.bool false) <| s_nil <| p_seqN <| v_ret <| p_ret [.bool false] (.bool false) (fun _ q => q) rfl ?_
  have ho : (decide (WayAsk n l a b t)) = false := by rw [Bool.eq_iff_iff]; simp only [wayAsk_iff, decide_eq_true_eq, Bool.false_eq_true, iff_false, false_iff, iff_true, true_iff]; first | omega | (simp_all; done) | grind
  exact ⟨by first | (rw [ho]; done) | rfl, E16⟩
 refine s_pass rfl <| s_pass rfl <| s_pass rfl <| s_pq (.bool false) <| s_pq (.bool false) <| s_splitN rfl (by simp) <| s_pass rfl <| s_pass rfl <| s_pass rfl <| s_pq (.bool false) <| s_pq (.bool false) <| s_nil <| p_seqN <| v_ret <| p_ret [.bool false] (.bool false) (fun _ q => q) rfl ?_
 have ho : (decide (WayAsk n l a b t)) = false := by rw [Bool.eq_iff_iff]; simp only [wayAsk_iff, decide_eq_true_eq, Bool.false_eq_true, iff_false, false_iff, iff_true, true_iff]; first | omega | (simp_all; done) | grind
 exact ⟨by first | (rw [ho]; done) | rfl, E9⟩

theorem impl_FirstArrival_ok (n : NetP) (v_n_towers : Value) (v_n_links : Value) (v_l : Value) (l : List FogD) (a : Int) (b : Int) (t : Int) (h : Heap) (s_n_towers : Sl h v_n_towers n.towers) (s_n_links : Sl h v_n_links n.links) (s_l : Sl h v_l l) : Cn f_impl_FirstArrival [.agg #[v_n_towers, v_n_links], v_l, .int .i64 a, .int .i64 b, .int .i64 t] h fun v h' => v = .tuple #[.int .i64 ((firstOf n l a b t).1), .bool ((firstOf n l a b t).2)] ∧ Ext h h' := by
 have l63_n_towers := s_n_towers.len63
 have l63_n_links := s_n_links.len63
 have l63_l := s_l.len63
 refine calls_of r_impl_FirstArrival ?_
 refine v_seq <| v_ops ?_
 refine s_box [v_n_towers, v_n_links] rfl (fun h2 b1 hbb1 hzb1 eh2 bxb1 => ?_)
 have E3 := (Ext.refl h).trans eh2
 have z4 := eh2.size
 have lbb1 := bxb1.lt
 refine s_pq (.int .i64 0) <| s_pq (.bool false) <| s_nil <| p_seqN <| v_seq <| v_seq <| v_ops <| s_load (.agg #[v_n_towers, v_n_links]) (fun _ q => bxb1.loadA rfl q) <| s_pq v_l <| s_pq (.int .i64 a) <| s_pq (.int .i64 b) <| s_pq (.int .i64 t) ?_
 have f5 := (s_n_towers.ext eh2)
 have f6 := (s_n_links.ext eh2)
 have f7 := (s_l.ext eh2)
 refine s_call [.agg #[v_n_towers, v_n_links], v_l, .int .i64 a, .int .i64 b, .int .i64 t] rfl (impl_wayAsked_ok n v_n_towers v_n_links v_l l a b t _ f5 f6 f7) ?_
 rintro _ h8 ⟨rfl, eh8⟩
 have E9 := E3.trans eh8
 have z10 := eh8.size
 refine s_pq (.bool (!(decide (WayAsk n l a b t)))) <| s_nil <| p_seqN ?_
 refine v_cond rfl (fun c11 => ?_) (fun c11 => ?_)
 ·
  refine v_seq <| v_ops <| s_pq (.int .i64 0) <| s_pq (.bool false) <| s_nil <| p_seqN <| v_ret <| p_seqR <| p_ret [.int .i64 0, .bool false] (.tuple #[.int .i64 0, .bool false]) (fun _ q => q) rfl ?_
  have ho : (firstOf n l a b t) = (0, false) := by first | exact first_no (by assumption) | exact first_neg (by rw [gI_at (by assumption)]; assumption) | (rw [first_yes (by assumption) (by rw [gI_at (by assumption)]; omega), gI_at (by assumption)])
  exact ⟨by first | (rw [ho]; done) | rfl, E9⟩
 have c11 := Classical.not_not.1 c11
 refine v_skip <| p_seqN <| v_seq <| v_ops ?_
 have f12 := (bxb1.ext eh8)
 refine s_load (.agg #[v_n_towers, v_n_links]) (fun _ q => f12.loadA rfl q) <| s_pq v_l <| s_pq (.int .i64 a) <| s_pq (.int .i64 t) ?_
 have f13 := (f5.ext eh8)
 have f14 := (f6.ext eh8)
 have f15 := (f7.ext eh8)
 refine s_call [.agg #[v_n_towers, v_n_links], v_l, .int .i64 a, .int .i64 t] rfl (impl_arrivals_ok n v_n_towers v_n_links v_l l a t _ f13 f14 f15 _ (by assumption : WayAsk n l a b t).hn (by assumption : WayAsk n l a b t).hf (by assumption : WayAsk n l a b t).ha (by assumption : WayAsk n l a b t).ht) ?_
 rintro r16 h17 ⟨_, rfl, s_r16, fr_r16, eh17⟩
 have E18 := E9.trans eh17
 have z19 := eh17.size
 refine s_pq (.int .i64 b) ?_
 have hk20 : (b).toNat < (arrOf n l a t).length := (by (have h1 := (by assumption : WayAsk n l a b t).hb); rw [arrOf_len]; omega)
 obtain ⟨x21, hx21⟩ : ∃ x, (arrOf n l a t)[(b).toNat]? = some x := ⟨_, List.getElem?_eq_getElem hk20⟩
 refine s_pure (.pointer (some ⟨sblk r16, soff r16 + ((b).toNat) * 1, none⟩)) (fun _ q => s_r16.idx (k := (b).toNat) (by have := (by assumption : WayAsk n l a b t).hb; omega) hk20 q) <| s_load (.int .i64 x21) (fun _ q => s_r16.load1 hx21 rfl q) <| s_pq (.int .i64 x21) <| s_nil <| p_seqN <| v_seq <| v_seq <| v_ops <| s_pq (.int .i64 x21) <| s_pq (.bool (decide (x21 < 0))) <| s_nil <| p_seqN ?_
 refine v_cond rfl (fun c22 => ?_) (fun c22 => ?_)
 ·
  refine v_seq <| v_ops <| s_pq (.int .i64 0) <| s_pq (.bool false) <| s_nil <| p_seqN <| v_ret <| p_seqR <| p_ret [.int .i64 0, .bool false] (.tuple #[.int .i64 0, .bool false]) (fun _ q => q) rfl ?_
  have ho : (firstOf n l a b t) = (0, false) := by first | exact first_no (by assumption) | exact first_neg (by rw [gI_at (by assumption)]; assumption) | (rw [first_yes (by assumption) (by rw [gI_at (by assumption)]; omega), gI_at (by assumption)])
  exact ⟨by first | (rw [ho]; done) | rfl, E18⟩
 refine v_skip <| p_seqN <| v_seq <| v_ops <| s_pq (.int .i64 x21) <| s_pq (.int .i64 x21) <| s_pq (.bool true) <| s_nil <| p_seqN <| v_ret <| p_ret [.int .i64 x21, .bool true] (.tuple #[.int .i64 x21, .bool true]) (fun _ q => q) rfl ?_
 have ho : (firstOf n l a b t) = (x21, true) := by first | exact first_no (by assumption) | exact first_neg (by rw [gI_at (by assumption)]; assumption) | (rw [first_yes (by assumption) (by rw [gI_at (by assumption)]; omega), gI_at (by assumption)])
 exact ⟨by first | (rw [ho]; done) | rfl, E18⟩

theorem spec_FirstArrival_ok (n : NetP) (v_n_towers : Value) (v_n_links : Value) (v_l : Value) (l : List FogD) (a : Int) (b : Int) (t : Int) (h : Heap) (s_n_towers : Sl h v_n_towers n.towers) (s_n_links : Sl h v_n_links n.links) (s_l : Sl h v_l l) : Cn f_spec_FirstArrival [.agg #[v_n_towers, v_n_links], v_l, .int .i64 a, .int .i64 b, .int .i64 t] h fun v h' => v = .tuple #[.int .i64 ((firstOf n l a b t).1), .bool ((firstOf n l a b t).2)] ∧ Ext h h' := by
 have l63_n_towers := s_n_towers.len63
 have l63_n_links := s_n_links.len63
 have l63_l := s_l.len63
 refine calls_of r_spec_FirstArrival ?_
 refine v_seq <| v_ops ?_
 refine s_box [v_n_towers, v_n_links] rfl (fun h2 b1 hbb1 hzb1 eh2 bxb1 => ?_)
 have E3 := (Ext.refl h).trans eh2
 have z4 := eh2.size
 have lbb1 := bxb1.lt
 refine s_pq (.int .i64 0) <| s_pq (.bool false) <| s_nil <| p_seqN <| v_seq <| v_seq <| v_ops <| s_load (.agg #[v_n_towers, v_n_links]) (fun _ q => bxb1.loadA rfl q) <| s_pq v_l <| s_pq (.int .i64 a) <| s_pq (.int .i64 b) <| s_pq (.int .i64 t) ?_
 have f5 := (s_n_towers.ext eh2)
 have f6 := (s_n_links.ext eh2)
 have f7 := (s_l.ext eh2)
 refine s_call [.agg #[v_n_towers, v_n_links], v_l, .int .i64 a, .int .i64 b, .int .i64 t] rfl (spec_roAsked_ok n v_n_towers v_n_links v_l l a b t _ f5 f6 f7) ?_
 rintro _ h8 ⟨rfl, eh8⟩
 have E9 := E3.trans eh8
 have z10 := eh8.size
 refine s_pq (.bool (!(decide (WayAsk n l a b t)))) <| s_nil <| p_seqN ?_
 refine v_cond rfl (fun c11 => ?_) (fun c11 => ?_)
 ·
  refine v_seq <| v_ops <| s_pq (.int .i64 0) <| s_pq (.bool false) <| s_nil <| p_seqN <| v_ret <| p_seqR <| p_ret [.int .i64 0, .bool false] (.tuple #[.int .i64 0, .bool false]) (fun _ q => q) rfl ?_
  have ho : (firstOf n l a b t) = (0, false) := by first | exact first_no (by assumption) | exact first_most (by assumption) (by assumption)
  exact ⟨by first | (rw [ho]; done) | rfl, E9⟩
 have c11 := Classical.not_not.1 c11
 refine v_skip <| p_seqN <| v_seq <| v_ops ?_
 have f12 := (bxb1.ext eh8)
 refine s_load (.agg #[v_n_towers, v_n_links]) (fun _ q => f12.loadA rfl q) <| s_pq v_l <| s_pq (.int .i64 a) <| s_pq (.int .i64 t) ?_
 have f13 := (f5.ext eh8)
 have f14 := (f6.ext eh8)
 have f15 := (f7.ext eh8)
 refine s_call [.agg #[v_n_towers, v_n_links], v_l, .int .i64 a, .int .i64 t] rfl (spec_roFirst_ok n v_n_towers v_n_links v_l l a t _ f13 f14 f15 _ (by assumption : WayAsk n l a b t).hn (by assumption : WayAsk n l a b t).hf (by assumption : WayAsk n l a b t).ha (by assumption : WayAsk n l a b t).ht) ?_
 rintro r16 h17 ⟨_, rfl, s_r16, fr_r16, eh17⟩
 have E18 := E9.trans eh17
 have z19 := eh17.size
 refine s_pq (.int .i64 b) ?_
 have hk20 : (b).toNat < (arrOf n l a t).length := (by (have h1 := (by assumption : WayAsk n l a b t).hb); rw [arrOf_len]; omega)
 obtain ⟨x21, hx21⟩ : ∃ x, (arrOf n l a t)[(b).toNat]? = some x := ⟨_, List.getElem?_eq_getElem hk20⟩
 refine s_pure (.pointer (some ⟨sblk r16, soff r16 + ((b).toNat) * 1, none⟩)) (fun _ q => s_r16.idx (k := (b).toNat) (by have := (by assumption : WayAsk n l a b t).hb; omega) hk20 q) <| s_load (.int .i64 x21) (fun _ q => s_r16.load1 hx21 rfl q) <| s_pq (.int .i64 x21) <| s_nil <| p_seqN <| v_seq <| v_ops <| s_pq (.int .i64 x21) <| s_callS [.int .i64 x21, .int .i64 0] (.int .i64 (if x21 > 0 then x21 else 0)) rfl (spec_l1Most_ok x21 0 _ ) <| s_pq (.int .i64 x21) <| s_pq (.bool (decide (x21 ≥ 0))) ?_
 refine s_pq (.int .i64 (if x21 > 0 then x21 else 0)) <| s_pq (.bool (decide (x21 ≥ 0))) <| s_nil <| p_seqN <| v_ret <| p_ret [.int .i64 (if x21 > 0 then x21 else 0), .bool (decide (x21 ≥ 0))] (.tuple #[.int .i64 (if x21 > 0 then x21 else 0), .bool (decide (x21 ≥ 0))]) (fun _ q => q) rfl ?_
 have ho : (firstOf n l a b t) = ((if x21 > 0 then x21 else 0), (decide (x21 ≥ 0))) := by first | exact first_no (by assumption) | exact first_most (by assumption) (by assumption)
 exact ⟨by first | (rw [ho]; done) | rfl, E18⟩

theorem spec_PlainDelay_ok (n : NetP) (v_n_towers : Value) (v_n_links : Value) (a : Int) (b : Int) (h : Heap) (s_n_towers : Sl h v_n_towers n.towers) (s_n_links : Sl h v_n_links n.links) : Cn f_spec_PlainDelay [.agg #[v_n_towers, v_n_links], .int .i64 a, .int .i64 b] h fun v h' => v = .tuple #[.int .i64 ((firstOf n [] a b 0).1), .bool ((firstOf n [] a b 0).2)] ∧ Ext h h' := by
 have l63_n_towers := s_n_towers.len63
 have l63_n_links := s_n_links.len63
 refine calls_of r_spec_PlainDelay ?_
 refine v_seq <| v_ops ?_
 refine s_box [v_n_towers, v_n_links] rfl (fun h2 b1 hbb1 hzb1 eh2 bxb1 => ?_)
 have E3 := (Ext.refl h).trans eh2
 have z4 := eh2.size
 have lbb1 := bxb1.lt
 refine s_pq (.int .i64 0) <| s_pq (.bool false) <| s_nil <| p_seqN <| v_seq <| v_ops <| s_load (.agg #[v_n_towers, v_n_links]) (fun _ q => bxb1.loadA rfl q) <| s_pq (.int .i64 a) <| s_pq (.int .i64 b) ?_
 have f5 := (s_n_towers.ext eh2)
 have f6 := (s_n_links.ext eh2)
 refine s_call [.agg #[v_n_towers, v_n_links], .slice none 0 0, .int .i64 a, .int .i64 b, .int .i64 0] rfl (spec_FirstArrival_ok n v_n_towers v_n_links (.slice none 0 0) [] a b 0 _ f5 f6 (SlX.nil (α := FogD) false _)) ?_
 rintro _ h7 ⟨rfl, eh7⟩
 have E8 := E3.trans eh7
 have z9 := eh7.size
 refine s_pq (.int .i64 ((firstOf n [] a b 0).1)) <| s_pq (.bool ((firstOf n [] a b 0).2)) <| s_pq (.int .i64 ((firstOf n [] a b 0).1)) <| s_pq (.bool ((firstOf n [] a b 0).2)) <| s_nil <| p_seqN <| v_ret <| p_ret [.int .i64 ((firstOf n [] a b 0).1), .bool ((firstOf n [] a b 0).2)] (.tuple #[.int .i64 ((firstOf n [] a b 0).1), .bool ((firstOf n [] a b 0).2)]) (fun _ q => q) rfl ?_
 have ho : (firstOf n [] a b 0) = ((firstOf n [] a b 0).1, (firstOf n [] a b 0).2) := by rfl
 exact ⟨by first | (rw [ho]; done) | rfl, E8⟩

theorem impl_plainDelay_ok (n : NetP) (v_n_towers : Value) (v_n_links : Value) (a : Int) (b : Int) (h : Heap) (s_n_towers : Sl h v_n_towers n.towers) (s_n_links : Sl h v_n_links n.links) (hw : WayAsk n [] a b 0) : Cn f_impl_plainDelay [.agg #[v_n_towers, v_n_links], .int .i64 a, .int .i64 b] h fun v h' => v = .tuple #[.int .i64 ((firstOf n [] a b 0).1), .bool ((firstOf n [] a b 0).2)] ∧ Ext h h' := by
 have l63_n_towers := s_n_towers.len63
 have l63_n_links := s_n_links.len63
 refine calls_of r_impl_plainDelay ?_
 refine v_seq <| v_ops ?_
 refine s_box [v_n_towers, v_n_links] rfl (fun h2 b1 hbb1 hzb1 eh2 bxb1 => ?_)
 have E3 := (Ext.refl h).trans eh2
 have z4 := eh2.size
 have lbb1 := bxb1.lt
 refine s_pq (.int .i64 0) <| s_pq (.bool false) <| s_nil <| p_seqN <| v_seq <| v_ops <| s_load (.agg #[v_n_towers, v_n_links]) (fun _ q => bxb1.loadA rfl q) <| s_pq (.int .i64 a) ?_
 have f5 := (s_n_towers.ext eh2)
 have f6 := (s_n_links.ext eh2)
 refine s_call [.agg #[v_n_towers, v_n_links], .slice none 0 0, .int .i64 a, .int .i64 0] rfl (impl_arrivals_ok n v_n_towers v_n_links (.slice none 0 0) [] a 0 _ f5 f6 (SlX.nil (α := FogD) false _) _ hw.hn hw.hf hw.ha hw.ht) ?_
 rintro r7 h8 ⟨_, rfl, s_r7, fr_r7, eh8⟩
 have E9 := E3.trans eh8
 have z10 := eh8.size
 refine s_pq (.int .i64 b) ?_
 have hk11 : (b).toNat < (arrOf n [] a 0).length := (by (have h1 := hw.hb); rw [arrOf_len]; omega)
 obtain ⟨x12, hx12⟩ : ∃ x, (arrOf n [] a 0)[(b).toNat]? = some x := ⟨_, List.getElem?_eq_getElem hk11⟩
 refine s_pure (.pointer (some ⟨sblk r7, soff r7 + ((b).toNat) * 1, none⟩)) (fun _ q => s_r7.idx (k := (b).toNat) (by have := hw.hb; omega) hk11 q) <| s_load (.int .i64 x12) (fun _ q => s_r7.load1 hx12 rfl q) <| s_pq (.int .i64 x12) <| s_nil <| p_seqN <| v_seq <| v_seq <| v_ops <| s_pq (.int .i64 x12) <| s_pq (.bool (decide (x12 < 0))) <| s_nil <| p_seqN ?_
 refine v_cond rfl (fun c13 => ?_) (fun c13 => ?_)
 ·
  refine v_seq <| v_ops <| s_pq (.int .i64 0) <| s_pq (.bool false) <| s_nil <| p_seqN <| v_ret <| p_seqR <| p_ret [.int .i64 0, .bool false] (.tuple #[.int .i64 0, .bool false]) (fun _ q => q) rfl ?_
  have ho : (firstOf n [] a b 0) = (0, false) := by first | exact first_neg (by rw [gI_at (by assumption)]; assumption) | (rw [first_yes (by assumption) (by rw [gI_at (by assumption)]; omega), gI_at (by assumption)])
  exact ⟨by first | (rw [ho]; done) | rfl, E9⟩
 refine v_skip <| p_seqN <| v_seq <| v_ops <| s_pq (.int .i64 x12) <| s_pq (.int .i64 x12) <| s_pq (.bool true) <| s_nil <| p_seqN <| v_ret <| p_ret [.int .i64 x12, .bool true] (.tuple #[.int .i64 x12, .bool true]) (fun _ q => q) rfl ?_
 have ho : (firstOf n [] a b 0) = (x12, true) := by first | exact first_neg (by rw [gI_at (by assumption)]; assumption) | (rw [first_yes (by assumption) (by rw [gI_at (by assumption)]; omega), gI_at (by assumption)])
 exact ⟨by first | (rw [ho]; done) | rfl, E9⟩

theorem impl_PlainDelay_ok (n : NetP) (v_n_towers : Value) (v_n_links : Value) (a : Int) (b : Int) (h : Heap) (s_n_towers : Sl h v_n_towers n.towers) (s_n_links : Sl h v_n_links n.links) : Cn f_impl_PlainDelay [.agg #[v_n_towers, v_n_links], .int .i64 a, .int .i64 b] h fun v h' => v = .tuple #[.int .i64 ((firstOf n [] a b 0).1), .bool ((firstOf n [] a b 0).2)] ∧ Ext h h' := by
 have l63_n_towers := s_n_towers.len63
 have l63_n_links := s_n_links.len63
 refine calls_of r_impl_PlainDelay ?_
 refine v_seq <| v_ops ?_
 refine s_box [v_n_towers, v_n_links] rfl (fun h2 b1 hbb1 hzb1 eh2 bxb1 => ?_)
 have E3 := (Ext.refl h).trans eh2
 have z4 := eh2.size
 have lbb1 := bxb1.lt
 refine s_pq (.int .i64 0) <| s_pq (.bool false) <| s_nil <| p_seqN <| v_seq <| v_seq <| v_ops <| s_load (.agg #[v_n_towers, v_n_links]) (fun _ q => bxb1.loadA rfl q) <| s_pq (.int .i64 a) ?_
 have f5 := (s_n_towers.ext eh2)
 have f6 := (s_n_links.ext eh2)
 refine s_call [.agg #[v_n_towers, v_n_links], .int .i64 a] rfl (impl_isTower_ok n v_n_towers v_n_links a _ f5 f6) ?_
 rintro _ h7 ⟨rfl, eh7⟩
 have E8 := E3.trans eh7
 have z9 := eh7.size
 refine s_pq (.bool (!(decide (NetOk n ∧ (0 ≤ a ∧ a ≤ (n.towers.length : Int) - 1))))) <| s_pq (.bool (!(decide (NetOk n ∧ (0 ≤ a ∧ a ≤ (n.towers.length : Int) - 1))))) ?_
 refine s_splitT rfl (fun c10 => ?_) (fun c10 => ?_)
 ·
  refine s_pass rfl <| s_pass rfl <| s_pass rfl <| s_pass rfl <| s_pq (.bool true) <| s_nil <| p_seqN <| v_condY rfl rfl <| v_seq <| v_ops <| s_pq (.int .i64 0) <| s_pq (.bool false) <| s_nil <| p_seqN <| v_ret <| p_seqR <| p_ret [.int .i64 0, .bool false] (.tuple #[.int .i64 0, .bool false]) (fun _ q => q) rfl ?_
  have ho : (firstOf n [] a b 0) = (0, false) := by first | rfl | exact first_no (fun h => (by assumption : ¬ (NetOk n ∧ 0 ≤ a ∧ _)) ⟨h.hn, h.ha⟩) | exact first_no (fun h => (by assumption : ¬ (NetOk n ∧ 0 ≤ b ∧ _)) ⟨h.hn, h.hb⟩)
  exact ⟨by first | (rw [ho]; done) | rfl, E8⟩
 have c10 := Classical.not_not.1 c10
 refine s_run rfl ?_
 have f11 := (bxb1.ext eh7)
 refine s_load (.agg #[v_n_towers, v_n_links]) (fun _ q => f11.loadA rfl q) <| s_run rfl <| s_pq (.int .i64 b) <| s_run rfl ?_
 have f12 := (f5.ext eh7)
 have f13 := (f6.ext eh7)
 refine s_call [.agg #[v_n_towers, v_n_links], .int .i64 b] rfl (impl_isTower_ok n v_n_towers v_n_links b _ f12 f13) ?_
 rintro _ h14 ⟨rfl, eh14⟩
 have E15 := E8.trans eh14
 have z16 := eh14.size
 refine s_run rfl <| s_pq (.bool (!(decide (NetOk n ∧ (0 ≤ b ∧ b ≤ (n.towers.length : Int) - 1))))) <| s_pq (.bool (!(decide (NetOk n ∧ (0 ≤ b ∧ b ≤ (n.towers.length : Int) - 1))))) <| s_nil <| p_seqN ?_
 refine v_cond rfl (fun c17 => ?_) (fun c17 => ?_)
 ·
  refine v_seq <| v_ops <| s_pq (.int .i64 0) <| s_pq (.bool false) <| s_nil <| p_seqN <| v_ret <| p_seqR <| p_ret [.int .i64 0, .bool false] (.tuple #[.int .i64 0, .bool false]) (fun _ q => q) rfl ?_
  have ho : (firstOf n [] a b 0) = (0, false) := by first | rfl | exact first_no (fun h => (by assumption : ¬ (NetOk n ∧ 0 ≤ a ∧ _)) ⟨h.hn, h.ha⟩) | exact first_no (fun h => (by assumption : ¬ (NetOk n ∧ 0 ≤ b ∧ _)) ⟨h.hn, h.hb⟩)
  exact ⟨by first | (rw [ho]; done) | rfl, E15⟩
 have c17 := Classical.not_not.1 c17
 refine v_skip <| p_seqN <| v_seq <| v_ops ?_
 have f18 := (f11.ext eh14)
 refine s_load (.agg #[v_n_towers, v_n_links]) (fun _ q => f18.loadA rfl q) <| s_pq (.int .i64 a) <| s_pq (.int .i64 b) ?_
 have f19 := (f12.ext eh14)
 have f20 := (f13.ext eh14)
 refine s_call [.agg #[v_n_towers, v_n_links], .int .i64 a, .int .i64 b] rfl (impl_plainDelay_ok n v_n_towers v_n_links a b _ f19 f20 (wayAsk_iff.2 ⟨(by assumption : NetOk n ∧ 0 ≤ a ∧ _).1, (by assumption : NetOk n ∧ 0 ≤ a ∧ _).2, (by assumption : NetOk n ∧ 0 ≤ b ∧ _).2, fogs_nil _, by omega⟩)) ?_
 rintro _ h21 ⟨rfl, eh21⟩
 have E22 := E15.trans eh21
 have z23 := eh21.size
 refine s_pq (.int .i64 ((firstOf n [] a b 0).1)) <| s_pq (.bool ((firstOf n [] a b 0).2)) <| s_pq (.int .i64 ((firstOf n [] a b 0).1)) <| s_pq (.bool ((firstOf n [] a b 0).2)) <| s_nil <| p_seqN <| v_ret <| p_ret [.int .i64 ((firstOf n [] a b 0).1), .bool ((firstOf n [] a b 0).2)] (.tuple #[.int .i64 ((firstOf n [] a b 0).1), .bool ((firstOf n [] a b 0).2)]) (fun _ q => q) rfl ?_
 have ho : (firstOf n [] a b 0) = ((firstOf n [] a b 0).1, (firstOf n [] a b 0).2) := by first | rfl | exact first_no (fun h => (by assumption : ¬ (NetOk n ∧ 0 ≤ a ∧ _)) ⟨h.hn, h.ha⟩) | exact first_no (fun h => (by assumption : ¬ (NetOk n ∧ 0 ≤ b ∧ _)) ⟨h.hn, h.hb⟩)
 exact ⟨by first | (rw [ho]; done) | rfl, E22⟩

theorem impl_FogDelay_ok (n : NetP) (v_n_towers : Value) (v_n_links : Value) (v_l : Value) (l : List FogD) (a : Int) (b : Int) (t : Int) (h : Heap) (s_n_towers : Sl h v_n_towers n.towers) (s_n_links : Sl h v_n_links n.links) (s_l : Sl h v_l l) : Cn f_impl_FogDelay [.agg #[v_n_towers, v_n_links], v_l, .int .i64 a, .int .i64 b, .int .i64 t] h fun v h' => v = .tuple #[.int .i64 ((fogDelay n l a b t).1), .bool ((fogDelay n l a b t).2)] ∧ Ext h h' := by
 have l63_n_towers := s_n_towers.len63
 have l63_n_links := s_n_links.len63
 have l63_l := s_l.len63
 refine calls_of r_impl_FogDelay ?_
 refine v_seq <| v_ops ?_
 refine s_box [v_n_towers, v_n_links] rfl (fun h2 b1 hbb1 hzb1 eh2 bxb1 => ?_)
 have E3 := (Ext.refl h).trans eh2
 have z4 := eh2.size
 have lbb1 := bxb1.lt
 refine s_pq (.int .i64 0) <| s_pq (.bool false) <| s_nil <| p_seqN <| v_seq <| v_ops <| s_load (.agg #[v_n_towers, v_n_links]) (fun _ q => bxb1.loadA rfl q) <| s_pq v_l <| s_pq (.int .i64 a) <| s_pq (.int .i64 b) <| s_pq (.int .i64 t) ?_
 have f5 := (s_n_towers.ext eh2)
 have f6 := (s_n_links.ext eh2)
 have f7 := (s_l.ext eh2)
 refine s_call [.agg #[v_n_towers, v_n_links], v_l, .int .i64 a, .int .i64 b, .int .i64 t] rfl (impl_FirstArrival_ok n v_n_towers v_n_links v_l l a b t _ f5 f6 f7) ?_
 rintro _ h8 ⟨rfl, eh8⟩
 have E9 := E3.trans eh8
 have z10 := eh8.size
 refine s_pq (.tuple #[.int .i64 ((firstOf n l a b t).1), .bool ((firstOf n l a b t).2)]) <| s_pq (.int .i64 ((firstOf n l a b t).1)) <| s_pq (.bool ((firstOf n l a b t).2)) <| s_pq (.int .i64 ((firstOf n l a b t).1)) <| s_pq (.bool ((firstOf n l a b t).2)) <| s_nil <| p_seqN <| v_seq <| v_seq <| v_ops <| s_pq (.bool ((firstOf n l a b t).2)) <| s_pq (.bool (!(firstOf n l a b t).2)) <| s_nil <| p_seqN ?_
 refine v_cond rfl (fun c11 => ?_) (fun c11 => ?_)
 ·
  refine v_seq <| v_ops <| s_pq (.int .i64 0) <| s_pq (.bool false) <| s_nil <| p_seqN <| v_ret <| p_seqR <| p_ret [.int .i64 0, .bool false] (.tuple #[.int .i64 0, .bool false]) (fun _ q => q) rfl ?_
  have ho : (fogDelay n l a b t) = (0, false) := by first | exact fogDelay_no (by assumption) | exact fogDelay_yes (by assumption)
  exact ⟨by first | (rw [ho]; done) | rfl, E9⟩
 have c11 := Classical.not_not.1 c11
 refine v_skip <| p_seqN <| v_seq <| v_ops ?_
 have f12 := (bxb1.ext eh8)
 refine s_load (.agg #[v_n_towers, v_n_links]) (fun _ q => f12.loadA rfl q) <| s_pq (.int .i64 a) <| s_pq (.int .i64 b) ?_
 have f13 := (f5.ext eh8)
 have f14 := (f6.ext eh8)
 refine s_call [.agg #[v_n_towers, v_n_links], .int .i64 a, .int .i64 b] rfl (impl_plainDelay_ok n v_n_towers v_n_links a b _ f13 f14 (wayAsk_plain (first_ask (by assumption : (firstOf n l a b t).2 = true)).1)) ?_
 rintro _ h15 ⟨rfl, eh15⟩
 have E16 := E9.trans eh15
 have z17 := eh15.size
 refine s_pq (.tuple #[.int .i64 ((firstOf n [] a b 0).1), .bool ((firstOf n [] a b 0).2)]) <| s_pq (.int .i64 ((firstOf n [] a b 0).1)) <| s_pq (.bool ((firstOf n [] a b 0).2)) <| s_pq (.int .i64 ((firstOf n [] a b 0).1)) <| s_pq (.bool ((firstOf n [] a b 0).2)) <| s_nil <| p_seqN <| v_seq <| v_ops <| s_pq (.int .i64 ((firstOf n l a b t).1)) <| s_pq (.int .i64 t) <| s_pure (.int .i64 ((firstOf n l a b t).1 - t)) (fun _ q => ArithVC.mk (by have := fogDelay_bd (by assumption : (firstOf n l a b t).2 = true); omega) q) ?_
 refine s_pq (.int .i64 ((firstOf n [] a b 0).1)) <| s_pure (.int .i64 (((firstOf n l a b t).1 - t) - (firstOf n [] a b 0).1)) (fun _ q => ArithVC.mk (by have := fogDelay_bd (by assumption : (firstOf n l a b t).2 = true); omega) q) <| s_pq (.int .i64 (((firstOf n l a b t).1 - t) - (firstOf n [] a b 0).1)) <| s_pq (.bool true) <| s_nil <| p_seqN <| v_ret <| p_ret [.int .i64 (((firstOf n l a b t).1 - t) - (firstOf n [] a b 0).1), .bool true] (.tuple #[.int .i64 (((firstOf n l a b t).1 - t) - (firstOf n [] a b 0).1), .bool true]) (fun _ q => q) rfl ?_
 have ho : (fogDelay n l a b t) = ((((firstOf n l a b t).1 - t) - (firstOf n [] a b 0).1), true) := by first | exact fogDelay_no (by assumption) | exact fogDelay_yes (by assumption)
 exact ⟨by first | (rw [ho]; done) | rfl, E16⟩

theorem spec_FogDelay_ok (n : NetP) (v_n_towers : Value) (v_n_links : Value) (v_l : Value) (l : List FogD) (a : Int) (b : Int) (t : Int) (h : Heap) (s_n_towers : Sl h v_n_towers n.towers) (s_n_links : Sl h v_n_links n.links) (s_l : Sl h v_l l) : Cn f_spec_FogDelay [.agg #[v_n_towers, v_n_links], v_l, .int .i64 a, .int .i64 b, .int .i64 t] h fun v h' => v = .tuple #[.int .i64 ((fogDelay n l a b t).1), .bool ((fogDelay n l a b t).2)] ∧ Ext h h' := by
 have l63_n_towers := s_n_towers.len63
 have l63_n_links := s_n_links.len63
 have l63_l := s_l.len63
 refine calls_of r_spec_FogDelay ?_
 refine v_seq <| v_ops ?_
 refine s_box [v_n_towers, v_n_links] rfl (fun h2 b1 hbb1 hzb1 eh2 bxb1 => ?_)
 have E3 := (Ext.refl h).trans eh2
 have z4 := eh2.size
 have lbb1 := bxb1.lt
 refine s_pq (.int .i64 0) <| s_pq (.bool false) <| s_nil <| p_seqN <| v_seq <| v_ops <| s_load (.agg #[v_n_towers, v_n_links]) (fun _ q => bxb1.loadA rfl q) <| s_pq v_l <| s_pq (.int .i64 a) <| s_pq (.int .i64 b) <| s_pq (.int .i64 t) ?_
 have f5 := (s_n_towers.ext eh2)
 have f6 := (s_n_links.ext eh2)
 have f7 := (s_l.ext eh2)
 refine s_call [.agg #[v_n_towers, v_n_links], v_l, .int .i64 a, .int .i64 b, .int .i64 t] rfl (spec_FirstArrival_ok n v_n_towers v_n_links v_l l a b t _ f5 f6 f7) ?_
 rintro _ h8 ⟨rfl, eh8⟩
 have E9 := E3.trans eh8
 have z10 := eh8.size
 refine s_pq (.tuple #[.int .i64 ((firstOf n l a b t).1), .bool ((firstOf n l a b t).2)]) <| s_pq (.int .i64 ((firstOf n l a b t).1)) <| s_pq (.bool ((firstOf n l a b t).2)) <| s_pq (.int .i64 ((firstOf n l a b t).1)) <| s_pq (.bool ((firstOf n l a b t).2)) <| s_nil <| p_seqN <| v_seq <| v_seq <| v_ops <| s_pq (.bool ((firstOf n l a b t).2)) <| s_pq (.bool (!(firstOf n l a b t).2)) <| s_nil <| p_seqN ?_
 refine v_cond rfl (fun c11 => ?_) (fun c11 => ?_)
 ·
  refine v_seq <| v_ops <| s_pq (.int .i64 0) <| s_pq (.bool false) <| s_nil <| p_seqN <| v_ret <| p_seqR <| p_ret [.int .i64 0, .bool false] (.tuple #[.int .i64 0, .bool false]) (fun _ q => q) rfl ?_
  have ho : (fogDelay n l a b t) = (0, false) := by first | exact fogDelay_no (by assumption) | exact fogDelay_yes (by assumption)
  exact ⟨by first | (rw [ho]; done) | rfl, E9⟩
 have c11 := Classical.not_not.1 c11
 refine v_skip <| p_seqN <| v_seq <| v_ops ?_
 have f12 := (bxb1.ext eh8)
 refine s_load (.agg #[v_n_towers, v_n_links]) (fun _ q => f12.loadA rfl q) <| s_pq (.int .i64 a) <| s_pq (.int .i64 b) ?_
 have f13 := (f5.ext eh8)
 have f14 := (f6.ext eh8)
 refine s_call [.agg #[v_n_towers, v_n_links], .int .i64 a, .int .i64 b] rfl (spec_PlainDelay_ok n v_n_towers v_n_links a b _ f13 f14) ?_
 rintro _ h15 ⟨rfl, eh15⟩
 have E16 := E9.trans eh15
 have z17 := eh15.size
 refine s_pq (.tuple #[.int .i64 ((firstOf n [] a b 0).1), .bool ((firstOf n [] a b 0).2)]) <| s_pq (.int .i64 ((firstOf n [] a b 0).1)) <| s_pq (.bool ((firstOf n [] a b 0).2)) <| s_pq (.int .i64 ((firstOf n [] a b 0).1)) <| s_pq (.bool ((firstOf n [] a b 0).2)) <| s_nil <| p_seqN <| v_seq <| v_ops <| s_pq (.int .i64 ((firstOf n l a b t).1)) <| s_pq (.int .i64 t) <| s_pure (.int .i64 ((firstOf n l a b t).1 - t)) (fun _ q => ArithVC.mk (by have := fogDelay_bd (by assumption : (firstOf n l a b t).2 = true); omega) q) ?_
 refine s_pq (.int .i64 ((firstOf n [] a b 0).1)) <| s_pure (.int .i64 (((firstOf n l a b t).1 - t) - (firstOf n [] a b 0).1)) (fun _ q => ArithVC.mk (by have := fogDelay_bd (by assumption : (firstOf n l a b t).2 = true); omega) q) <| s_pq (.int .i64 (((firstOf n l a b t).1 - t) - (firstOf n [] a b 0).1)) <| s_pq (.bool true) <| s_nil <| p_seqN <| v_ret <| p_ret [.int .i64 (((firstOf n l a b t).1 - t) - (firstOf n [] a b 0).1), .bool true] (.tuple #[.int .i64 (((firstOf n l a b t).1 - t) - (firstOf n [] a b 0).1), .bool true]) (fun _ q => q) rfl ?_
 have ho : (fogDelay n l a b t) = ((((firstOf n l a b t).1 - t) - (firstOf n [] a b 0).1), true) := by first | exact fogDelay_no (by assumption) | exact fogDelay_yes (by assumption)
 exact ⟨by first | (rw [ho]; done) | rfl, E16⟩

set_option maxRecDepth 10000 in
set_option maxHeartbeats 4000000 in
theorem impl_LatestStart_ok (n : NetP) (v_n_towers : Value) (v_n_links : Value) (v_l : Value) (l : List FogD) (a : Int) (b : Int) (t : Int) (h : Heap) (s_n_towers : Sl h v_n_towers n.towers) (s_n_links : Sl h v_n_links n.links) (s_l : Sl h v_l l) : Cn f_impl_LatestStart [.agg #[v_n_towers, v_n_links], v_l, .int .i64 a, .int .i64 b, .int .i64 t] h fun v h' => v = .tuple #[.int .i64 ((latest n l a b t).1), .bool ((latest n l a b t).2)] ∧ Ext h h' := by
 have l63_n_towers := s_n_towers.len63
 have l63_n_links := s_n_links.len63
 have l63_l := s_l.len63
 refine calls_of r_impl_LatestStart ?_
 refine v_seq <| v_ops ?_
 refine s_box [v_n_towers, v_n_links] rfl (fun h2 b1 hbb1 hzb1 eh2 bxb1 => ?_)
 have E3 := (Ext.refl h).trans eh2
 have z4 := eh2.size
 have lbb1 := bxb1.lt
 refine s_pq (.int .i64 0) <| s_pq (.bool false) <| s_nil <| p_seqN <| v_seq <| v_seq <| v_ops <| s_load (.agg #[v_n_towers, v_n_links]) (fun _ q => bxb1.loadA rfl q) <| s_pq v_l <| s_pq (.int .i64 a) <| s_pq (.int .i64 b) <| s_pq (.int .i64 t) ?_
 have f5 := (s_n_towers.ext eh2)
 have f6 := (s_n_links.ext eh2)
 have f7 := (s_l.ext eh2)
 refine s_call [.agg #[v_n_towers, v_n_links], v_l, .int .i64 a, .int .i64 b, .int .i64 t] rfl (impl_wayAsked_ok n v_n_towers v_n_links v_l l a b t _ f5 f6 f7) ?_
 rintro _ h8 ⟨rfl, eh8⟩
 have E9 := E3.trans eh8
 have z10 := eh8.size
 refine s_pq (.bool (!(decide (WayAsk n l a b t)))) <| s_nil <| p_seqN ?_
 refine v_cond rfl (fun c11 => ?_) (fun c11 => ?_)
 ·
  refine v_seq <| v_ops <| s_pq (.int .i64 0) <| s_pq (.bool false) <| s_nil <| p_seqN <| v_ret <| p_seqR <| p_ret [.int .i64 0, .bool false] (.tuple #[.int .i64 0, .bool false]) (fun _ q => q) rfl ?_
  have ho : (latest n l a b t) = (0, false) := by first | exact latest_no (by assumption) | exact latest_no2 (by assumption) (by omega) | exact latest_yes hw (by assumption) (by assumption) (by assumption) (hl.ends (by assumption))
  exact ⟨by first | (rw [ho]; done) | rfl, E9⟩
 have c11 := Classical.not_not.1 c11
 refine v_skip <| p_seqN <| v_seq <| v_seq <| v_ops ?_
 have f12 := (bxb1.ext eh8)
 refine s_load (.agg #[v_n_towers, v_n_links]) (fun _ q => f12.loadA rfl q) <| s_pq v_l <| s_pq (.int .i64 a) ?_
 have f13 := (f5.ext eh8)
 have f14 := (f6.ext eh8)
 have f15 := (f7.ext eh8)
 refine s_call [.agg #[v_n_towers, v_n_links], v_l, .int .i64 a, .int .i64 0] rfl (impl_arrivals_ok n v_n_towers v_n_links v_l l a 0 _ f13 f14 f15 _ (by assumption : WayAsk n l a b t).hn (by assumption : WayAsk n l a b t).hf (by assumption : WayAsk n l a b t).ha (by have := (by assumption : WayAsk n l a b t).ht; omega)) ?_
 rintro r16 h17 ⟨_, rfl, s_r16, fr_r16, eh17⟩
 have E18 := E9.trans eh17
 have z19 := eh17.size
 refine s_pq (.int .i64 b) ?_
 have hk20 : (b).toNat < (arrOf n l a 0).length := (by (have h1 := (by assumption : WayAsk n l a b t).hb); rw [arrOf_len]; omega)
 obtain ⟨x21, hx21⟩ : ∃ x, (arrOf n l a 0)[(b).toNat]? = some x := ⟨_, List.getElem?_eq_getElem hk20⟩
 refine s_pure (.pointer (some ⟨sblk r16, soff r16 + ((b).toNat) * 1, none⟩)) (fun _ q => s_r16.idx (k := (b).toNat) (by have := (by assumption : WayAsk n l a b t).hb; omega) hk20 q) <| s_load (.int .i64 x21) (fun _ q => s_r16.load1 hx21 rfl q) <| s_pq (.int .i64 x21) <| s_nil <| p_seqN <| v_seq <| v_ops <| s_pq (.int .i64 x21) <| s_pq (.bool (decide (x21 < 0))) <| s_pq (.bool (decide (x21 < 0))) ?_
 refine s_splitT rfl (fun c22 => ?_) (fun c22 => ?_)
 ·
  refine s_pass rfl <| s_pass rfl <| s_pass rfl <| s_pq (.bool true) <| s_nil <| p_seqN <| v_condY rfl rfl <| v_seq <| v_ops <| s_pq (.int .i64 0) <| s_pq (.bool false) <| s_nil <| p_seqN <| v_ret <| p_seqR <| p_ret [.int .i64 0, .bool false] (.tuple #[.int .i64 0, .bool false]) (fun _ q => q) rfl ?_
  have ho : (latest n l a b t) = (0, false) := by first | exact latest_no (by assumption) | exact latest_no2 (by assumption) (by omega) | exact latest_yes hw (by assumption) (by assumption) (by assumption) (hl.ends (by assumption))
  exact ⟨by first | (rw [ho]; done) | rfl, E18⟩
 refine s_run rfl <| s_pq (.int .i64 x21) <| s_run rfl <| s_pq (.int .i64 t) <| s_run rfl <| s_pq (.bool (decide (x21 > t))) <| s_pq (.bool (decide (x21 > t))) <| s_nil <| p_seqN ?_
 refine v_cond rfl (fun c23 => ?_) (fun c23 => ?_)
 ·
  refine v_seq <| v_ops <| s_pq (.int .i64 0) <| s_pq (.bool false) <| s_nil <| p_seqN <| v_ret <| p_seqR <| p_ret [.int .i64 0, .bool false] (.tuple #[.int .i64 0, .bool false]) (fun _ q => q) rfl ?_
  have ho : (latest n l a b t) = (0, false) := by first | exact latest_no (by assumption) | exact latest_no2 (by assumption) (by omega) | exact latest_yes hw (by assumption) (by assumption) (by assumption) (hl.ends (by assumption))
  exact ⟨by first | (rw [ho]; done) | rfl, E18⟩
 refine v_skip <| p_seqN <| v_seq <| v_ops <| s_pq (.int .i64 t) <| s_pq (.int .i64 0) <| s_pq (.int .i64 t) <| s_nil <| p_seqN <| v_seq <| v_block ?_
 have hw : WayAsk n l a b t := by assumption
 have hwt := hw.ht
 have hwb := hw.hb
 have ht2 := hw.hn.t2
 have f25 := (f12.ext eh17)
 refine v_loop2 (α := Int) (β := Int) (fun lo hi => [(1, v_l), (2, .int .i64 a), (3, .int .i64 b), (4, .int .i64 t), (5, .pointer (some ⟨b1, 0, none⟩)), (13, .int .i64 lo), (14, .int .i64 hi)]) (fun lo hi hh => Ext h hh ∧ Bx hh b1 [v_n_towers, v_n_links] 26 ∧ Late n l a b t lo hi) (fun lo hi => (hi - lo).toNat) 0 t ⟨rfl, rfl, rfl, rfl, rfl, rfl, rfl⟩ ⟨E18, f25, (by exact Late.start hw.ht.1 (by (have e := gI_at (by assumption : (arrOf n l a 0)[b.toNat]? = some _)); omega))⟩ ?_
 rintro lo hi R26 h24 ⟨Eh, bxb1, hl⟩
 have zEh := Eh.size
 have f28 := s_n_towers.ext Eh
 have f29 := s_n_links.ext Eh
 have f30 := s_l.ext Eh
 have lbb1 := bxb1.lt
 have hbd := hl.bd
 refine v_seq <| v_seq <| v_ops <| s_pq (.int .i64 lo) <| s_pq (.int .i64 hi) <| s_pq (.bool (decide (lo < hi))) <| s_nil <| p_seqN ?_
 refine v_cond rfl (fun c31 => ?_) (fun c31 => ?_)
 ·
  refine v_skip <| p_seqN <| v_block <| v_seq <| v_ops <| s_pq (.int .i64 lo) <| s_pq (.int .i64 hi) <| s_pure (.int .i64 (lo + hi)) (fun _ q => ArithVC.mk (by omega) q) <| s_pure (.int .i64 ((lo + hi) + 1)) (fun _ q => ArithVC.mk (by omega) q) <| s_pure (.int .i64 (((lo + hi) + 1) / 2)) (fun _ q => QuoVC.mk (by omega) (by omega) (by omega) q) <| s_pq (.int .i64 (((lo + hi) + 1) / 2)) <| s_nil <| p_seqN <| v_seq <| v_ops <| s_load (.agg #[v_n_towers, v_n_links]) (fun _ q => bxb1.loadA rfl q) <| s_pq v_l ?_
  refine s_pq (.int .i64 a) <| s_pq (.int .i64 (((lo + hi) + 1) / 2)) <| s_call [.agg #[v_n_towers, v_n_links], v_l, .int .i64 a, .int .i64 (((lo + hi) + 1) / 2)] rfl (impl_arrivals_ok n v_n_towers v_n_links v_l l a (((lo + hi) + 1) / 2) _ f28 f29 f30 _ (by assumption : WayAsk n l a b t).hn (by assumption : WayAsk n l a b t).hf (by assumption : WayAsk n l a b t).ha (by have := (by assumption : WayAsk n l a b t).ht; omega)) ?_
  rintro r32 h33 ⟨_, rfl, s_r32, fr_r32, eh33⟩
  have E34 := Eh.trans eh33
  have z35 := eh33.size
  refine s_pq (.int .i64 b) ?_
  have hk36 : (b).toNat < (arrOf n l a (((lo + hi) + 1) / 2)).length := (by (have h1 := (by assumption : WayAsk n l a b t).hb); rw [arrOf_len]; omega)
  obtain ⟨x37, hx37⟩ : ∃ x, (arrOf n l a (((lo + hi) + 1) / 2))[(b).toNat]? = some x := ⟨_, List.getElem?_eq_getElem hk36⟩
  refine s_pure (.pointer (some ⟨sblk r32, soff r32 + ((b).toNat) * 1, none⟩)) (fun _ q => s_r32.idx (k := (b).toNat) (by have := (by assumption : WayAsk n l a b t).hb; omega) hk36 q) <| s_load (.int .i64 x37) (fun _ q => s_r32.load1 hx37 rfl q) <| s_pq (.int .i64 t) <| s_pq (.bool (decide (x37 ≤ t))) <| s_nil <| p_seqN ?_
  refine v_cond rfl (fun c38 => ?_) (fun c38 => ?_)
  ·
   refine v_ops <| s_pq (.int .i64 (((lo + hi) + 1) / 2)) <| s_pq (.int .i64 (((lo + hi) + 1) / 2)) <| s_nil <| p_blkN ?_
   have f39 := (bxb1.ext eh33)
   exact p_lpN ⟨(((lo + hi) + 1) / 2), hi, ⟨rfl, rfl, rfl, rfl, rfl, rfl, rfl⟩, ⟨E34, f39, (by first | exact hl.up (by omega) (by (have e := gI_at hx37); omega) | exact hl.down hw (by omega) (by (have e := gI_at hx37); omega))⟩, by omega⟩
  refine v_ops <| s_pq (.int .i64 (((lo + hi) + 1) / 2)) <| s_pure (.int .i64 ((((lo + hi) + 1) / 2) - 1)) (fun _ q => ArithVC.mk (by omega) q) <| s_pq (.int .i64 ((((lo + hi) + 1) / 2) - 1)) <| s_nil <| p_blkN ?_
  have f40 := (bxb1.ext eh33)
  exact p_lpN ⟨lo, ((((lo + hi) + 1) / 2) - 1), ⟨rfl, rfl, rfl, rfl, rfl, rfl, rfl⟩, ⟨E34, f40, (by first | exact hl.up (by omega) (by (have e := gI_at hx37); omega) | exact hl.down hw (by omega) (by (have e := gI_at hx37); omega))⟩, by omega⟩
 refine v_exit <| p_seqX <| p_lpX <| p_blkX <| p_seqN <| v_seq <| v_ops <| s_pq (.int .i64 lo) <| s_pq (.int .i64 lo) <| s_pq (.bool true) <| s_nil <| p_seqN <| v_ret <| p_ret [.int .i64 lo, .bool true] (.tuple #[.int .i64 lo, .bool true]) (fun _ q => q) rfl ?_
 have ho : (latest n l a b t) = (lo, true) := by first | exact latest_no (by assumption) | exact latest_no2 (by assumption) (by omega) | exact latest_yes hw (by assumption) (by assumption) (by assumption) (hl.ends (by assumption))
 exact ⟨by first | (rw [ho]; done) | rfl, Eh⟩

set_option maxRecDepth 10000 in
set_option maxHeartbeats 4000000 in
theorem spec_LatestStart_ok (n : NetP) (v_n_towers : Value) (v_n_links : Value) (v_l : Value) (l : List FogD) (a : Int) (b : Int) (t : Int) (h : Heap) (s_n_towers : Sl h v_n_towers n.towers) (s_n_links : Sl h v_n_links n.links) (s_l : Sl h v_l l) : Cn f_spec_LatestStart [.agg #[v_n_towers, v_n_links], v_l, .int .i64 a, .int .i64 b, .int .i64 t] h fun v h' => v = .tuple #[.int .i64 ((latest n l a b t).1), .bool ((latest n l a b t).2)] ∧ Ext h h' := by
 have l63_n_towers := s_n_towers.len63
 have l63_n_links := s_n_links.len63
 have l63_l := s_l.len63
 refine calls_of r_spec_LatestStart ?_
 refine v_seq <| v_ops ?_
 refine s_box [v_n_towers, v_n_links] rfl (fun h2 b1 hbb1 hzb1 eh2 bxb1 => ?_)
 have E3 := (Ext.refl h).trans eh2
 have z4 := eh2.size
 have lbb1 := bxb1.lt
 refine s_pq (.int .i64 0) <| s_pq (.bool false) <| s_nil <| p_seqN <| v_seq <| v_seq <| v_ops <| s_load (.agg #[v_n_towers, v_n_links]) (fun _ q => bxb1.loadA rfl q) <| s_pq v_l <| s_pq (.int .i64 a) <| s_pq (.int .i64 b) <| s_pq (.int .i64 t) ?_
 have f5 := (s_n_towers.ext eh2)
 have f6 := (s_n_links.ext eh2)
 have f7 := (s_l.ext eh2)
 refine s_call [.agg #[v_n_towers, v_n_links], v_l, .int .i64 a, .int .i64 b, .int .i64 t] rfl (spec_roAsked_ok n v_n_towers v_n_links v_l l a b t _ f5 f6 f7) ?_
 rintro _ h8 ⟨rfl, eh8⟩
 have E9 := E3.trans eh8
 have z10 := eh8.size
 refine s_pq (.bool (!(decide (WayAsk n l a b t)))) <| s_nil <| p_seqN ?_
 refine v_cond rfl (fun c11 => ?_) (fun c11 => ?_)
 ·
  refine v_seq <| v_ops <| s_pq (.int .i64 0) <| s_pq (.bool false) <| s_nil <| p_seqN <| v_ret <| p_seqR <| p_ret [.int .i64 0, .bool false] (.tuple #[.int .i64 0, .bool false]) (fun _ q => q) rfl ?_
  have ho : (latest n l a b t) = (0, false) := by first | exact latest_no (by assumption) | exact latest_no2 (by assumption) (by omega) | exact latest_yes hw (by assumption) (by assumption) (by assumption) (hl.ends (by assumption))
  exact ⟨by first | (rw [ho]; done) | rfl, E9⟩
 have c11 := Classical.not_not.1 c11
 refine v_skip <| p_seqN <| v_seq <| v_seq <| v_ops ?_
 have f12 := (bxb1.ext eh8)
 refine s_load (.agg #[v_n_towers, v_n_links]) (fun _ q => f12.loadA rfl q) <| s_pq v_l <| s_pq (.int .i64 a) ?_
 have f13 := (f5.ext eh8)
 have f14 := (f6.ext eh8)
 have f15 := (f7.ext eh8)
 refine s_call [.agg #[v_n_towers, v_n_links], v_l, .int .i64 a, .int .i64 0] rfl (spec_roFirst_ok n v_n_towers v_n_links v_l l a 0 _ f13 f14 f15 _ (by assumption : WayAsk n l a b t).hn (by assumption : WayAsk n l a b t).hf (by assumption : WayAsk n l a b t).ha (by have := (by assumption : WayAsk n l a b t).ht; omega)) ?_
 rintro r16 h17 ⟨_, rfl, s_r16, fr_r16, eh17⟩
 have E18 := E9.trans eh17
 have z19 := eh17.size
 refine s_pq r16 <| s_nil <| p_seqN <| v_seq <| v_ops <| s_pq r16 <| s_pq (.int .i64 b) ?_
 have hk20 : (b).toNat < (arrOf n l a 0).length := (by (have h1 := (by assumption : WayAsk n l a b t).hb); rw [arrOf_len]; omega)
 obtain ⟨x21, hx21⟩ : ∃ x, (arrOf n l a 0)[(b).toNat]? = some x := ⟨_, List.getElem?_eq_getElem hk20⟩
 refine s_pure (.pointer (some ⟨sblk r16, soff r16 + ((b).toNat) * 1, none⟩)) (fun _ q => s_r16.idx (k := (b).toNat) (by have := (by assumption : WayAsk n l a b t).hb; omega) hk20 q) <| s_load (.int .i64 x21) (fun _ q => s_r16.load1 hx21 rfl q) <| s_pq (.bool (decide (x21 < 0))) <| s_pq (.bool (decide (x21 < 0))) ?_
 refine s_splitT rfl (fun c22 => ?_) (fun c22 => ?_)
 ·
  refine s_pass rfl <| s_pass rfl <| s_pass rfl <| s_pass rfl <| s_pass rfl <| s_pass rfl <| s_pq (.bool true) <| s_nil <| p_seqN <| v_condY rfl rfl <| v_seq <| v_ops <| s_pq (.int .i64 0) <| s_pq (.bool false) <| s_nil <| p_seqN <| v_ret <| p_seqR <| p_ret [.int .i64 0, .bool false] (.tuple #[.int .i64 0, .bool false]) (fun _ q => q) rfl ?_
  have ho : (latest n l a b t) = (0, false) := by first | exact latest_no (by assumption) | exact latest_no2 (by assumption) (by omega) | exact latest_yes hw (by assumption) (by assumption) (by assumption) (hl.ends (by assumption))
  exact ⟨by first | (rw [ho]; done) | rfl, E18⟩
 refine s_run rfl <| s_pq r16 <| s_run rfl <| s_pq (.int .i64 b) <| s_run rfl <| s_pure (.pointer (some ⟨sblk r16, soff r16 + ((b).toNat) * 1, none⟩)) (fun _ q => s_r16.idx (k := (b).toNat) (by have := (by assumption : WayAsk n l a b t).hb; omega) hk20 q) <| s_run rfl <| s_load (.int .i64 x21) (fun _ q => s_r16.load1 hx21 rfl q) <| s_run rfl <| s_pq (.int .i64 t) <| s_run rfl <| s_pq (.bool (decide (x21 > t))) <| s_pq (.bool (decide (x21 > t))) <| s_nil <| p_seqN ?_
 refine v_cond rfl (fun c23 => ?_) (fun c23 => ?_)
 ·
  refine v_seq <| v_ops <| s_pq (.int .i64 0) <| s_pq (.bool false) <| s_nil <| p_seqN <| v_ret <| p_seqR <| p_ret [.int .i64 0, .bool false] (.tuple #[.int .i64 0, .bool false]) (fun _ q => q) rfl ?_
  have ho : (latest n l a b t) = (0, false) := by first | exact latest_no (by assumption) | exact latest_no2 (by assumption) (by omega) | exact latest_yes hw (by assumption) (by assumption) (by assumption) (hl.ends (by assumption))
  exact ⟨by first | (rw [ho]; done) | rfl, E18⟩
 refine v_skip <| p_seqN <| v_seq <| v_ops <| s_pq (.int .i64 t) <| s_pq (.int .i64 0) <| s_pq (.int .i64 t) <| s_nil <| p_seqN <| v_seq <| v_block ?_
 have hw : WayAsk n l a b t := by assumption
 have hwt := hw.ht
 have hwb := hw.hb
 have ht2 := hw.hn.t2
 have f25 := (f12.ext eh17)
 refine v_loop2 (α := Int) (β := Int) (fun lo hi => [(1, v_l), (2, .int .i64 a), (3, .int .i64 b), (4, .int .i64 t), (5, .pointer (some ⟨b1, 0, none⟩)), (13, .int .i64 lo), (14, .int .i64 hi)]) (fun lo hi hh => Ext h hh ∧ Bx hh b1 [v_n_towers, v_n_links] 26 ∧ Late n l a b t lo hi) (fun lo hi => (hi - lo).toNat) 0 t ⟨rfl, rfl, rfl, rfl, rfl, rfl, rfl⟩ ⟨E18, f25, (by exact Late.start hw.ht.1 (by (have e := gI_at (by assumption : (arrOf n l a 0)[b.toNat]? = some _)); omega))⟩ ?_
 rintro lo hi R26 h24 ⟨Eh, bxb1, hl⟩
 have zEh := Eh.size
 have f28 := s_n_towers.ext Eh
 have f29 := s_n_links.ext Eh
 have f30 := s_l.ext Eh
 have lbb1 := bxb1.lt
 have hbd := hl.bd
 refine v_seq <| v_seq <| v_ops <| s_pq (.int .i64 lo) <| s_pq (.int .i64 hi) <| s_pq (.bool (decide (lo < hi))) <| s_nil <| p_seqN ?_
 refine v_cond rfl (fun c31 => ?_) (fun c31 => ?_)
 ·
  refine v_skip <| p_seqN <| v_block <| v_seq <| v_ops <| s_pq (.int .i64 lo) <| s_pq (.int .i64 hi) <| s_pure (.int .i64 (lo + hi)) (fun _ q => ArithVC.mk (by omega) q) <| s_pure (.int .i64 ((lo + hi) + 1)) (fun _ q => ArithVC.mk (by omega) q) <| s_pure (.int .i64 (((lo + hi) + 1) / 2)) (fun _ q => QuoVC.mk (by omega) (by omega) (by omega) q) <| s_pq (.int .i64 (((lo + hi) + 1) / 2)) <| s_nil <| p_seqN <| v_seq <| v_ops <| s_load (.agg #[v_n_towers, v_n_links]) (fun _ q => bxb1.loadA rfl q) <| s_pq v_l ?_
  refine s_pq (.int .i64 a) <| s_pq (.int .i64 (((lo + hi) + 1) / 2)) <| s_call [.agg #[v_n_towers, v_n_links], v_l, .int .i64 a, .int .i64 (((lo + hi) + 1) / 2)] rfl (spec_roFirst_ok n v_n_towers v_n_links v_l l a (((lo + hi) + 1) / 2) _ f28 f29 f30 _ (by assumption : WayAsk n l a b t).hn (by assumption : WayAsk n l a b t).hf (by assumption : WayAsk n l a b t).ha (by have := (by assumption : WayAsk n l a b t).ht; omega)) ?_
  rintro r32 h33 ⟨_, rfl, s_r32, fr_r32, eh33⟩
  have E34 := Eh.trans eh33
  have z35 := eh33.size
  refine s_pq (.int .i64 b) ?_
  have hk36 : (b).toNat < (arrOf n l a (((lo + hi) + 1) / 2)).length := (by (have h1 := (by assumption : WayAsk n l a b t).hb); rw [arrOf_len]; omega)
  obtain ⟨x37, hx37⟩ : ∃ x, (arrOf n l a (((lo + hi) + 1) / 2))[(b).toNat]? = some x := ⟨_, List.getElem?_eq_getElem hk36⟩
  refine s_pure (.pointer (some ⟨sblk r32, soff r32 + ((b).toNat) * 1, none⟩)) (fun _ q => s_r32.idx (k := (b).toNat) (by have := (by assumption : WayAsk n l a b t).hb; omega) hk36 q) <| s_load (.int .i64 x37) (fun _ q => s_r32.load1 hx37 rfl q) <| s_pq (.int .i64 t) <| s_pq (.bool (decide (x37 ≤ t))) <| s_nil <| p_seqN ?_
  refine v_cond rfl (fun c38 => ?_) (fun c38 => ?_)
  ·
   refine v_ops <| s_pq (.int .i64 (((lo + hi) + 1) / 2)) <| s_pq (.int .i64 (((lo + hi) + 1) / 2)) <| s_nil <| p_blkN ?_
   have f39 := (bxb1.ext eh33)
   exact p_lpN ⟨(((lo + hi) + 1) / 2), hi, ⟨rfl, rfl, rfl, rfl, rfl, rfl, rfl⟩, ⟨E34, f39, (by first | exact hl.up (by omega) (by (have e := gI_at hx37); omega) | exact hl.down hw (by omega) (by (have e := gI_at hx37); omega))⟩, by omega⟩
  refine v_ops <| s_pq (.int .i64 (((lo + hi) + 1) / 2)) <| s_pure (.int .i64 ((((lo + hi) + 1) / 2) - 1)) (fun _ q => ArithVC.mk (by omega) q) <| s_pq (.int .i64 ((((lo + hi) + 1) / 2) - 1)) <| s_nil <| p_blkN ?_
  have f40 := (bxb1.ext eh33)
  exact p_lpN ⟨lo, ((((lo + hi) + 1) / 2) - 1), ⟨rfl, rfl, rfl, rfl, rfl, rfl, rfl⟩, ⟨E34, f40, (by first | exact hl.up (by omega) (by (have e := gI_at hx37); omega) | exact hl.down hw (by omega) (by (have e := gI_at hx37); omega))⟩, by omega⟩
 refine v_exit <| p_seqX <| p_lpX <| p_blkX <| p_seqN <| v_seq <| v_ops <| s_pq (.int .i64 lo) <| s_pq (.int .i64 lo) <| s_pq (.bool true) <| s_nil <| p_seqN <| v_ret <| p_ret [.int .i64 lo, .bool true] (.tuple #[.int .i64 lo, .bool true]) (fun _ q => q) rfl ?_
 have ho : (latest n l a b t) = (lo, true) := by first | exact latest_no (by assumption) | exact latest_no2 (by assumption) (by omega) | exact latest_yes hw (by assumption) (by assumption) (by assumption) (hl.ends (by assumption))
 exact ⟨by first | (rw [ho]; done) | rfl, Eh⟩

theorem impl_ArrivalsFrom_ok (n : NetP) (v_n_towers : Value) (v_n_links : Value) (v_l : Value) (l : List FogD) (a : Int) (t : Int) (h : Heap) (s_n_towers : Sl h v_n_towers n.towers) (s_n_links : Sl h v_n_links n.links) (s_l : Sl h v_l l) : Cn f_impl_ArrivalsFrom [.agg #[v_n_towers, v_n_links], v_l, .int .i64 a, .int .i64 t] h fun v h' => ∃ r0 : Value, v = .tuple #[r0, .bool ((arrsFrom n l a t).2)] ∧ SlO h' r0 ((arrsFrom n l a t).1) ∧ Fr h.size r0 ∧ Ext h h' := by
 have l63_n_towers := s_n_towers.len63
 have l63_n_links := s_n_links.len63
 have l63_l := s_l.len63
 refine calls_of r_impl_ArrivalsFrom ?_
 refine v_seq <| v_ops ?_
 refine s_box [v_n_towers, v_n_links] rfl (fun h2 b1 hbb1 hzb1 eh2 bxb1 => ?_)
 have E3 := (Ext.refl h).trans eh2
 have z4 := eh2.size
 have lbb1 := bxb1.lt
 refine s_pq (.slice none 0 0) <| s_pq (.bool false) <| s_nil <| p_seqN <| v_seq <| v_seq <| v_ops <| s_load (.agg #[v_n_towers, v_n_links]) (fun _ q => bxb1.loadA rfl q) <| s_pq v_l <| s_pq (.int .i64 a) <| s_pq (.int .i64 a) <| s_pq (.int .i64 t) ?_
 have f5 := (s_n_towers.ext eh2)
 have f6 := (s_n_links.ext eh2)
 have f7 := (s_l.ext eh2)
 refine s_call [.agg #[v_n_towers, v_n_links], v_l, .int .i64 a, .int .i64 a, .int .i64 t] rfl (impl_wayAsked_ok n v_n_towers v_n_links v_l l a a t _ f5 f6 f7) ?_
 rintro _ h8 ⟨rfl, eh8⟩
 have E9 := E3.trans eh8
 have z10 := eh8.size
 refine s_pq (.bool (!(decide (WayAsk n l a a t)))) <| s_nil <| p_seqN ?_
 refine v_cond rfl (fun c11 => ?_) (fun c11 => ?_)
 ·
  refine v_seq <| v_ops <| s_pq (.slice none 0 0) <| s_pq (.bool false) <| s_nil <| p_seqN <| v_ret <| p_seqR <| p_ret [.slice none 0 0, .bool false] (.tuple #[.slice none 0 0, .bool false]) (fun _ q => q) rfl ?_
  have ho : (arrsFrom n l a t) = ([], false) := by first | exact arrs_no (by assumption) | exact arrs_yes (by assumption)
  exact ⟨(.slice none 0 0), by first | (rw [ho]; done) | rfl, sl_eq (SlX.nil (α := Int) true _) (congrArg (fun o => o.1) ho).symm, Fr.nil _, E9⟩
 have c11 := Classical.not_not.1 c11
 refine v_skip <| p_seqN <| v_seq <| v_ops ?_
 have f12 := (bxb1.ext eh8)
 refine s_load (.agg #[v_n_towers, v_n_links]) (fun _ q => f12.loadA rfl q) <| s_pq v_l <| s_pq (.int .i64 a) <| s_pq (.int .i64 t) ?_
 have f13 := (f5.ext eh8)
 have f14 := (f6.ext eh8)
 have f15 := (f7.ext eh8)
 refine s_call [.agg #[v_n_towers, v_n_links], v_l, .int .i64 a, .int .i64 t] rfl (impl_arrivals_ok n v_n_towers v_n_links v_l l a t _ f13 f14 f15 _ (by assumption : WayAsk n l a a t).hn (by assumption : WayAsk n l a a t).hf (by assumption : WayAsk n l a a t).ha (by assumption : WayAsk n l a a t).ht) ?_
 rintro r16 h17 ⟨_, rfl, s_r16, fr_r16, eh17⟩
 have E18 := E9.trans eh17
 have z19 := eh17.size
 refine s_pq r16 <| s_pq (.bool true) <| s_nil <| p_seqN <| v_ret <| p_ret [r16, .bool true] (.tuple #[r16, .bool true]) (fun _ q => q) rfl ?_
 have ho : (arrsFrom n l a t) = ((arrOf n l a t), true) := by first | exact arrs_no (by assumption) | exact arrs_yes (by assumption)
 exact ⟨r16, by first | (rw [ho]; done) | rfl, sl_eq s_r16 (congrArg (fun o => o.1) ho).symm, fr_r16.mono (by omega), E18⟩

theorem spec_ArrivalsFrom_ok (n : NetP) (v_n_towers : Value) (v_n_links : Value) (v_l : Value) (l : List FogD) (a : Int) (t : Int) (h : Heap) (s_n_towers : Sl h v_n_towers n.towers) (s_n_links : Sl h v_n_links n.links) (s_l : Sl h v_l l) : Cn f_spec_ArrivalsFrom [.agg #[v_n_towers, v_n_links], v_l, .int .i64 a, .int .i64 t] h fun v h' => ∃ r0 : Value, v = .tuple #[r0, .bool ((arrsFrom n l a t).2)] ∧ SlO h' r0 ((arrsFrom n l a t).1) ∧ Fr h.size r0 ∧ Ext h h' := by
 have l63_n_towers := s_n_towers.len63
 have l63_n_links := s_n_links.len63
 have l63_l := s_l.len63
 refine calls_of r_spec_ArrivalsFrom ?_
 refine v_seq <| v_ops ?_
 refine s_box [v_n_towers, v_n_links] rfl (fun h2 b1 hbb1 hzb1 eh2 bxb1 => ?_)
 have E3 := (Ext.refl h).trans eh2
 have z4 := eh2.size
 have lbb1 := bxb1.lt
 refine s_pq (.slice none 0 0) <| s_pq (.bool false) <| s_nil <| p_seqN <| v_seq <| v_seq <| v_ops <| s_load (.agg #[v_n_towers, v_n_links]) (fun _ q => bxb1.loadA rfl q) <| s_pq v_l <| s_pq (.int .i64 t) ?_
 have f5 := (s_n_towers.ext eh2)
 have f6 := (s_n_links.ext eh2)
 have f7 := (s_l.ext eh2)
 refine s_call [.agg #[v_n_towers, v_n_links], v_l, .int .i64 t] rfl (spec_roGood_ok n v_n_towers v_n_links v_l l t _ f5 f6 f7) ?_
 rintro _ h8 ⟨rfl, eh8⟩
 have E9 := E3.trans eh8
 have z10 := eh8.size
 refine s_pq (.bool (!(decide (NetOk n ∧ FogsOk n.links.length l ∧ (0 ≤ t ∧ t ≤ 10000))))) <| s_pq (.bool (!(decide (NetOk n ∧ FogsOk n.links.length l ∧ (0 ≤ t ∧ t ≤ 10000))))) ?_
 refine s_splitT rfl (fun c11 => ?_) (fun c11 => ?_)
 ·
  refine s_pass rfl <| s_pass rfl <| s_pass rfl <| s_pass rfl <| s_pq (.bool true) <| s_nil <| p_seqN <| v_condY rfl rfl <| v_seq <| v_ops <| s_pq (.slice none 0 0) <| s_pq (.bool false) <| s_nil <| p_seqN <| v_ret <| p_seqR <| p_ret [.slice none 0 0, .bool false] (.tuple #[.slice none 0 0, .bool false]) (fun _ q => q) rfl ?_
  have ho : (arrsFrom n l a t) = ([], false) := by first | exact arrs_no (fun h => (by assumption : ¬ (NetOk n ∧ FogsOk n.links.length l ∧ _)) ⟨h.hn, h.hf, h.ht⟩) | exact arrs_no (fun h => (by assumption : ¬ (0 ≤ a ∧ _)) h.ha) | exact arrs_yes (wayAsk_iff.2 ⟨(by assumption : NetOk n ∧ FogsOk n.links.length l ∧ _).1, (by assumption), (by assumption), (by assumption : NetOk n ∧ FogsOk n.links.length l ∧ _).2.1, (by assumption : NetOk n ∧ FogsOk n.links.length l ∧ _).2.2⟩)
  exact ⟨(.slice none 0 0), by first | (rw [ho]; done) | rfl, sl_eq (SlX.nil (α := Int) true _) (congrArg (fun o => o.1) ho).symm, Fr.nil _, E9⟩
 have c11 := Classical.not_not.1 c11
 refine s_run rfl ?_
 have f12 := (bxb1.ext eh8)
 refine s_load (.agg #[v_n_towers, v_n_links]) (fun _ q => f12.loadA rfl q) <| s_run rfl <| s_pq (.int .i64 a) <| s_run rfl ?_
 have f13 := (f5.ext eh8)
 have f14 := (f6.ext eh8)
 refine s_call [.agg #[v_n_towers, v_n_links], .int .i64 a] rfl (spec_roTower_ok n v_n_towers v_n_links a _ f13 f14) ?_
 rintro _ h15 ⟨rfl, eh15⟩
 have E16 := E9.trans eh15
 have z17 := eh15.size
 refine s_run rfl <| s_pq (.bool (!(decide (0 ≤ a ∧ a ≤ (n.towers.length : Int) - 1)))) <| s_pq (.bool (!(decide (0 ≤ a ∧ a ≤ (n.towers.length : Int) - 1)))) <| s_nil <| p_seqN ?_
 refine v_cond rfl (fun c18 => ?_) (fun c18 => ?_)
 ·
  refine v_seq <| v_ops <| s_pq (.slice none 0 0) <| s_pq (.bool false) <| s_nil <| p_seqN <| v_ret <| p_seqR <| p_ret [.slice none 0 0, .bool false] (.tuple #[.slice none 0 0, .bool false]) (fun _ q => q) rfl ?_
  have ho : (arrsFrom n l a t) = ([], false) := by first | exact arrs_no (fun h => (by assumption : ¬ (NetOk n ∧ FogsOk n.links.length l ∧ _)) ⟨h.hn, h.hf, h.ht⟩) | exact arrs_no (fun h => (by assumption : ¬ (0 ≤ a ∧ _)) h.ha) | exact arrs_yes (wayAsk_iff.2 ⟨(by assumption : NetOk n ∧ FogsOk n.links.length l ∧ _).1, (by assumption), (by assumption), (by assumption : NetOk n ∧ FogsOk n.links.length l ∧ _).2.1, (by assumption : NetOk n ∧ FogsOk n.links.length l ∧ _).2.2⟩)
  exact ⟨(.slice none 0 0), by first | (rw [ho]; done) | rfl, sl_eq (SlX.nil (α := Int) true _) (congrArg (fun o => o.1) ho).symm, Fr.nil _, E16⟩
 have c18 := Classical.not_not.1 c18
 refine v_skip <| p_seqN <| v_seq <| v_ops ?_
 have f19 := (f12.ext eh15)
 refine s_load (.agg #[v_n_towers, v_n_links]) (fun _ q => f19.loadA rfl q) <| s_pq v_l <| s_pq (.int .i64 a) <| s_pq (.int .i64 t) ?_
 have f20 := (f13.ext eh15)
 have f21 := (f14.ext eh15)
 have f22 := ((f7.ext eh8).ext eh15)
 refine s_call [.agg #[v_n_towers, v_n_links], v_l, .int .i64 a, .int .i64 t] rfl (spec_roFirst_ok n v_n_towers v_n_links v_l l a t _ f20 f21 f22 _ (by assumption : NetOk n ∧ FogsOk n.links.length l ∧ _).1 (by assumption : NetOk n ∧ FogsOk n.links.length l ∧ _).2.1 (by assumption) (by assumption : NetOk n ∧ FogsOk n.links.length l ∧ _).2.2) ?_
 rintro r23 h24 ⟨_, rfl, s_r23, fr_r23, eh24⟩
 have E25 := E16.trans eh24
 have z26 := eh24.size
 refine s_pq r23 <| s_pq (.bool true) <| s_nil <| p_seqN <| v_ret <| p_ret [r23, .bool true] (.tuple #[r23, .bool true]) (fun _ q => q) rfl ?_
 have ho : (arrsFrom n l a t) = ((arrOf n l a t), true) := by first | exact arrs_no (fun h => (by assumption : ¬ (NetOk n ∧ FogsOk n.links.length l ∧ _)) ⟨h.hn, h.hf, h.ht⟩) | exact arrs_no (fun h => (by assumption : ¬ (0 ≤ a ∧ _)) h.ha) | exact arrs_yes (wayAsk_iff.2 ⟨(by assumption : NetOk n ∧ FogsOk n.links.length l ∧ _).1, (by assumption), (by assumption), (by assumption : NetOk n ∧ FogsOk n.links.length l ∧ _).2.1, (by assumption : NetOk n ∧ FogsOk n.links.length l ∧ _).2.2⟩)
 exact ⟨r23, by first | (rw [ho]; done) | rfl, sl_eq s_r23 (congrArg (fun o => o.1) ho).symm, fr_r23.mono (by omega), E25⟩

end Go.Proofs.Ytgbaonaopkdlpaa


