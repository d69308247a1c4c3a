/- Fo8, Fo9, Fo10p, Fo10. Condition: none. -/
import Derived.Test.YtloicopmcagikaaMgH
import Derived.Test.YtloicopmcagikaaMgD
import Derived.Test.YtloicopmcagikaaMgG
import Derived.Test.YtloicopmcagikaaSized
/- What is reached, two ways. Condition: none. Printed in part by a program. -/
namespace Go.Proofs.Ytloicopmcagikaa
open Go.Vc
set_option linter.all false

def Cl (L : List LinkD) (p : Int → Bool) (d : List Bool) (k : Nat) : Prop := ∀ (j : Nat) (x : LinkD), j < k → L[j]? = some x → p (j : Int) = true → d[x.a.toNat]? = d[x.b.toNat]?
theorem Cl.snoc {L : List LinkD} {p : Int → Bool} {d : List Bool} {k : Nat} (h : Cl L p d k) {x : LinkD} (hx : L[k]? = some x) (he : p (k : Int) = true → d[x.a.toNat]? = d[x.b.toNat]?) : Cl L p d (k + 1) := by
  intro j y hj hy hp
  by_cases e : j = k
  · subst e; rw [hx] at hy; obtain rfl := Option.some.inj hy; exact he hp
  · exact h j y (by omega) hy hp
theorem rb_out {n : NetP} (hn : NetOk n) {p : Int → Bool} {a : Int} {d : List Bool} (ha : 0 ≤ a) (h : Mk (selTo (fun i => p (i : Int)) n.links n.links.length) n.towers.length a d) (hc : Cl n.links p d n.links.length) {i : Nat} {b : Bool} (hb : d[i]? = some b) : b = rcB (selTo (fun i => p (i : Int)) n.links n.links.length) a (i : Int) := by
 have hi := (List.getElem?_eq_some_iff.1 hb).1
 rw [h.len] at hi
 have := h.all hn ha (fun j x hx hp => hc j x (List.getElem?_eq_some_iff.1 hx).1 hx hp) hi
 rw [hb] at this; exact Option.some.inj this
theorem bb_two {d : List Bool} {i j : Nat} {x y : Bool} (hx : d[i]? = some x) (hy : d[j]? = some y) (h : ¬ x = y) : (d[i]? = some false ∨ d[j]? = some false) ∧ (d[i]? = some true ∨ d[j]? = some true) := by
  rw [hx, hy]
  cases x <;> cases y <;> simp_all
theorem sel_at {p : Int → Bool} {L : List LinkD} {k : Nat} {x : LinkD} (hx : L[k]? = some x) (h : p (k : Int) = true) : x ∈ selTo (fun i => p (i : Int)) L L.length := mem_sel.2 ⟨k, (List.getElem?_eq_some_iff.1 hx).1, hx, h⟩

set_option maxRecDepth 10000 in
set_option maxHeartbeats 4000000 in
theorem impl_reachBy_ok (n : NetP) (v_n_towers : Value) (v_n_links : Value) (a : Int) (g : Nat) (fs cs : Array Value) (p : Int → Bool) (h : Heap) (s_n_towers : Sl h v_n_towers n.towers) (s_n_links : Sl h v_n_links n.links) (hc : ∀ x : Int, ∀ h2, Ext h h2 → Cn g (fs.toList ++ [.int .i64 x] ++ cs.toList) h2 fun r h' => r = .bool (p x) ∧ Ext h2 h') (hn : NetOk n) (ha : 0 ≤ a ∧ a < (n.towers.length : Int)) : Cn f_impl_reachBy [.agg #[v_n_towers, v_n_links], .int .i64 a, .func (.func g) fs cs] h fun v h' => ∃ r0 : Value, v = r0 ∧ SlO h' r0 (reachL n (fun i => p (i : Int)) a) ∧ Fr h.size r0 ∧ Ext h h' := by
 have l63_n_towers := s_n_towers.len63
 have l63_n_links := s_n_links.len63
 have h16 := hn.t2
 refine calls_of r_impl_reachBy ?_
 refine v_seq <| v_ops ?_
 refine s_box [v_n_towers, v_n_links] rfl (fun h2 b1 hbb1 hzb1 eh2 bxb1 => ?_)
 have E3 := (Ext.refl h).trans eh2
 have z4 := eh2.size
 have lbb1 := bxb1.lt
 refine s_pq (.slice none 0 0) <| s_nil <| p_seqN <| v_seq <| v_ops <| s_pq (.pointer (some ⟨b1, 0, none⟩)) <| s_load v_n_towers (fun _ q => bxb1.load rfl q) <| s_pure (.int .i64 (n.towers.length : Int)) (fun _ q => s_n_towers.lenVC q) ?_
 refine s_mk (α := Bool) n.towers.length false rfl rfl rfl rfl rfl rfl (by first | (simp [maxLen]; done) | (simp [maxLen]; omega)) (by omega) (fun r5 h6 eh6 zh6 s_r5 fr_r5 => ?_)
 have E7 := E3.trans eh6
 have z8 := eh6.size
 refine s_pq r5 <| s_nil <| p_seqN <| v_seq <| v_ops <| s_pq r5 <| s_pq (.int .i64 a) ?_
 have hk9 : (a).toNat < (List.replicate n.towers.length false).length := (by first | omega | (simp; omega))
 obtain ⟨x10, hx10⟩ : ∃ x, (List.replicate n.towers.length false)[(a).toNat]? = some x := ⟨_, List.getElem?_eq_getElem hk9⟩
 refine s_pure (.pointer (some ⟨sblk r5, soff r5 + ((a).toNat) * 1, none⟩)) (fun _ q => s_r5.idx (k := (a).toNat) (by omega) hk9 q) ?_
 refine s_stSl (k := (a).toNat) (j := 0) true (.bool true) [.bool true] s_r5 rfl rfl rfl rfl rfl hx10 (Nat.le_of_ble_eq_true rfl) rfl (all_cons rfl all_nil) (fun h11 mh11 sh11 s12 => ?_)
 have E13 := E7.mod mh11 (fun b hb => by have := fr_r5 b hb; omega)
 refine s_nil <| p_seqN <| v_seq <| v_seq <| v_ops <| s_pq (.bool true) <| s_nil <| p_seqN <| v_block ?_
 have f15 := ((bxb1.ext eh6).mod mh11 (fun hc => by have := fr_r5 _ hc; omega))
 refine v_loop3 (α := List Bool) (β := Bool) (γ := Value) (fun d gr y => [(2, .func (.func g) fs cs), (3, .pointer (some ⟨b1, 0, none⟩)), (7, y), (8, .bool gr)]) (fun d gr y hh => Ext h hh ∧ Bx hh b1 [v_n_towers, v_n_links] 27 ∧ SlO hh y d ∧ Fr h.size y ∧ b1 ∉ blks y ∧ Mk (selTo (fun i => p (i : Int)) n.links n.links.length) n.towers.length a d ∧ (gr = false → Cl n.links p d n.links.length)) (fun d gr y => 2 * unset d + (if gr = true then 1 else 0)) ((List.replicate n.towers.length false).set ((a).toNat) true) true r5 ⟨rfl, rfl, rfl, rfl⟩ ⟨E13, f15, (sl_eq s12 (by simp)), (fr_r5.mono (by omega)), (fun hc => by have := fr_r5 _ hc; omega), (by exact ⟨by first | exact mk_start (by omega) | simpa using mk_start (by omega), fun h => by cases h⟩)⟩ ?_
 rintro d gr y R16 h14 ⟨Eh, bxb1, s_y, fr_y, np_b1_y, ⟨hM, hcl⟩⟩
 have zEh := Eh.size
 have f19 := s_n_links.ext Eh
 have lbb1 := bxb1.lt
 have hdl := hM.len
 have h40 := hn.l2
 refine v_seq <| v_seq <| v_ops <| s_pq (.bool gr) <| s_nil <| p_seqN ?_
 refine v_cond rfl (fun c20 => ?_) (fun c20 => ?_)
 ·
  refine v_skip <| p_seqN <| v_block <| v_seq <| v_ops <| s_pq (.bool false) <| s_nil <| p_seqN <| v_seq <| v_ops <| s_pq (.pointer (some ⟨b1, 1, none⟩)) <| s_load v_n_links (fun _ q => bxb1.load rfl q) <| s_pure (.int .i64 (n.links.length : Int)) (fun _ q => f19.lenVC q) <| s_pq (.int .i64 0) <| s_nil <| p_seqN <| v_block <| v_loop4 (α := Nat) (β := List Bool) (γ := Bool) (δ := Value) (fun k d1 g1 y1 => [(2, .func (.func g) fs cs), (3, .pointer (some ⟨b1, 0, none⟩)), (7, y1), (8, .bool g1), (23, v_n_links), (24, .int .i64 (n.links.length : Int)), (25, .int .i64 (k : Int))]) (fun k d1 g1 y1 hh => Ext h hh ∧ Bx hh b1 [v_n_towers, v_n_links] 27 ∧ SlO hh y1 d1 ∧ Fr h.size y1 ∧ b1 ∉ blks y1 ∧ k ≤ n.links.length ∧ Mk (selTo (fun i => p (i : Int)) n.links n.links.length) n.towers.length a d1 ∧ unset d1 ≤ unset d ∧ (g1 = true → unset d1 < unset d) ∧ (g1 = false → Cl n.links p d1 k)) (fun k d1 g1 y1 => n.links.length - k) 0 d false y ⟨rfl, rfl, rfl, rfl, rfl, rfl, rfl⟩ ⟨Eh, bxb1, (sl_eq s_y (by simp)), (fr_y.mono (by omega)), np_b1_y, (by exact ⟨by omega, hM, by omega, fun h => (by cases h), fun _ j x hj => absurd hj (Nat.not_lt_zero _)⟩)⟩ ?_
  rintro k d1 g1 y1 R22 h21 ⟨Eh, bxb1, s_y1, fr_y1, np_b1_y1, ⟨hk, hM1, hle1, hlt, hcl1⟩⟩
  have zEh := Eh.size
  have f25 := s_n_links.ext Eh
  have lbb1 := bxb1.lt
  have lt_y1 := s_y1.lt
  have hdl1 := hM1.len
  have hlk := fun x (hx : n.links[k]? = some x) => hn.at hx
  refine v_seq <| v_ops <| s_pq (.bool (decide ((k : Int) < (n.links.length : Int)))) <| s_nil <| p_seqN <| v_seq ?_
  refine v_cond rfl (fun c26 => ?_) (fun c26 => ?_)
  ·
   refine v_skip <| p_seqN <| v_seq <| v_block <| v_seq <| v_ops <| s_pq (.int .i64 (k : Int)) ?_
   have hk27 : k < n.links.length := (by first | omega | (simp; omega))
   obtain ⟨x28, hx28⟩ : ∃ x, n.links[k]? = some x := ⟨_, List.getElem?_eq_getElem hk27⟩
   refine s_pure (.pointer (some ⟨sblk v_n_links, soff v_n_links + k * 3, none⟩)) (fun _ q => f25.idx (k := k) rfl hk27 q) <| s_load (.agg #[.int .i64 x28.a, .int .i64 x28.b, .int .i64 x28.delay]) (fun _ q => f25.loadN hx28 rfl q) ?_
   refine s_new (fun h30 b29 hbb29 hzb29 eh30 bxb29 => ?_)
   have E31 := Eh.trans eh30
   have z32 := eh30.size
   have lbb29 := bxb29.lt
   refine s_pq (.int .i64 (k : Int)) ?_
   refine s_stBx (.agg #[.int .i64 x28.a, .int .i64 x28.b, .int .i64 x28.delay]) [.int .i64 x28.a, .int .i64 x28.b, .int .i64 x28.delay] [.int .i64 x28.a, .int .i64 x28.b, .int .i64 x28.delay] bxb29 rfl rfl rfl rfl (by simp) (all_cons rfl (all_cons rfl (all_cons rfl all_nil))) rfl (fun h33 mh33 sh33 bxx34 => ?_)
   have E35 := E31.mod mh33 (fun b hb => by simp at hb; omega)
   refine s_nil <| p_seqN <| v_seq <| v_drawF <| d_pq y1 <| d_pq (.pointer (some ⟨b29, 0, none⟩)) <| d_pq y1 <| d_pq (.pointer (some ⟨b29, 1, none⟩)) <| d_loadO (.int .i64 x28.a) (fun _ q => bxx34.load rfl q) ?_
   have f36 := ((s_y1.ext eh30).mod mh33 (fun b hb hc => by simp at hc; have := lt_y1 b hb; omega))
   have hk37 : (x28.a).toNat < d1.length := (by have q_ := hn.at (by assumption : n.links[k]? = some _); unfold LinkOk at q_; first | omega | (rw [List.length_set]; omega))
   obtain ⟨x38, hx38⟩ : ∃ x, d1[(x28.a).toNat]? = some x := ⟨_, List.getElem?_eq_getElem hk37⟩
   refine d_pureT (.pointer (some ⟨sblk y1, soff y1 + ((x28.a).toNat) * 1, none⟩)) (fun _ q => f36.idx (k := (x28.a).toNat) (by have q_ := hn.at (by assumption : n.links[k]? = some _); unfold LinkOk at q_; first | omega | (rw [List.length_set]; omega)) hk37 q) <| d_loadO (.bool x38) (fun _ q => f36.load1 hx38 rfl q) <| d_loadO (.int .i64 x28.b) (fun _ q => bxx34.load rfl q) ?_
   have hk39 : (x28.b).toNat < d1.length := (by have q_ := hn.at (by assumption : n.links[k]? = some _); unfold LinkOk at q_; first | omega | (rw [List.length_set]; omega))
   obtain ⟨x40, hx40⟩ : ∃ x, d1[(x28.b).toNat]? = some x := ⟨_, List.getElem?_eq_getElem hk39⟩
   refine d_pureT (.pointer (some ⟨sblk y1, soff y1 + ((x28.b).toNat) * 1, none⟩)) (fun _ q => f36.idx (k := (x28.b).toNat) (by have q_ := hn.at (by assumption : n.links[k]? = some _); unfold LinkOk at q_; first | omega | (rw [List.length_set]; omega)) hk39 q) <| d_loadO (.bool x40) (fun _ q => f36.load1 hx40 rfl q) <| d_pq (.bool (x38 != x40)) <| d_pq (.bool (x38 != x40)) ?_
   refine d_splitT rfl (fun c41 => ?_) (fun c41 => ?_)
   ·
    refine d_runT rfl <| d_pq (.func (.func g) fs cs) <| d_runT rfl <| d_pq (.int .i64 (k : Int)) <| d_runO rfl <| d_eff <| s_callv (fs.toList ++ [.int .i64 (k : Int)] ++ cs.toList) rfl rfl (hc (k : Int) _ E35) ?_
    rintro _ h42 ⟨rfl, eh42⟩
    have E43 := E35.trans eh42
    have z44 := eh42.size
    refine s_nil ⟨fun hl => (by cases hl), ?_⟩
    refine d_pq (.bool (p (k : Int))) <| d_done <| p_seqN ?_
    refine v_cond rfl (fun c46 => ?_) (fun c46 => ?_)
    ·
     have f47 := (bxx34.ext eh42)
     refine v_draw (DrawVC.hold ([b29]) ?_)
     refine d_pq y1 <| d_pq (.pointer (some ⟨b29, 0, none⟩)) <| d_pq y1 <| d_pq (.pointer (some ⟨b29, 1, none⟩)) <| d_loadO (.int .i64 x28.a) (fun _ q => f47.load rfl q) ?_
     have f48 := (f36.ext eh42)
     refine d_pureT (.pointer (some ⟨sblk y1, soff y1 + ((x28.a).toNat) * 1, none⟩)) (fun _ q => f48.idx (k := (x28.a).toNat) (by have q_ := hn.at (by assumption : n.links[k]? = some _); unfold LinkOk at q_; first | omega | (rw [List.length_set]; omega)) hk37 q) <| d_loadT (.int .i64 x28.b) (fun _ q => f47.take (by simp) rfl q) <| d_eff ?_
     refine s_stSl (k := (x28.a).toNat) (j := 0) true (.bool true) [.bool true] f48 rfl rfl rfl rfl rfl hx38 (Nat.le_of_ble_eq_true rfl) rfl (all_cons rfl all_nil) (fun h49 mh49 sh49 s50 => ?_)
     have E51 := E43.mod mh49 (fun b hb => by have := fr_y1 b hb; omega)
     have G52 := gmod1 (b := b29) (h := h42) (h0 := h42) mh49 (by omega) (fun hc => by have := lt_y1 _ hc; omega) (fun _ _ => rfl)
     refine s_nil ⟨fun _ x hx => G52 x hx, ?_⟩
     have hk53 : (x28.b).toNat < (d1.set ((x28.a).toNat) true).length := (by have q_ := hn.at (by assumption : n.links[k]? = some _); unfold LinkOk at q_; first | omega | (rw [List.length_set]; omega))
     obtain ⟨x54, hx54⟩ : ∃ x, (d1.set ((x28.a).toNat) true)[(x28.b).toNat]? = some x := ⟨_, List.getElem?_eq_getElem hk53⟩
     refine d_pureT (.pointer (some ⟨sblk y1, soff y1 + ((x28.b).toNat) * 1, none⟩)) (fun _ q => s50.idx (k := (x28.b).toNat) (by have q_ := hn.at (by assumption : n.links[k]? = some _); unfold LinkOk at q_; first | omega | (rw [List.length_set]; omega)) hk53 q) <| d_eff ?_
     refine s_stSl (k := (x28.b).toNat) (j := 0) true (.bool true) [.bool true] s50 rfl rfl rfl rfl rfl hx54 (Nat.le_of_ble_eq_true rfl) rfl (all_cons rfl all_nil) (fun h55 mh55 sh55 s56 => ?_)
     have E57 := E51.mod mh55 (fun b hb => by have := fr_y1 b hb; omega)
     refine s_nil ⟨fun hl => (by cases hl), ?_⟩
     refine d_pq (.bool true) <| d_done <| p_blkN <| p_seqN <| v_ops <| s_pure (.int .i64 ((k : Int) + 1)) (fun _ q => ArithVC.mk (by omega) q) <| s_pq (.int .i64 ((k : Int) + 1)) <| s_nil ?_
     have f58 := (((((bxb1.ext eh30).mod mh33 (by simp; omega)).ext eh42).mod mh49 np_b1_y1).mod mh55 np_b1_y1)
     exact p_lpN ⟨k + 1, ((d1.set ((x28.a).toNat) true).set ((x28.b).toNat) true), true, y1, ⟨rfl, rfl, rfl, rfl, rfl, rfl, rfl⟩, ⟨E57, f58, (sl_eq s56 (by simp)), (fr_y1.mono (by omega)), np_b1_y1, (by first | exact ⟨by omega, hM1, hle1, hlt, fun h => (hcl1 h).snoc (by assumption) (fun hp => by simp_all)⟩ | (have hx_ := (by assumption : n.links[k]? = some x28); have hb_ := bb_two (d := d1) (i := x28.a.toNat) (j := x28.b.toNat) (by assumption) (by assumption) (by assumption); have ht_ := two_lt hb_.1; have hm_ := hM1.two (sel_at hx_ (by assumption)) (hn.at hx_) hb_.2; exact ⟨by omega, hm_, by omega, fun _ => by omega, fun h => by cases h⟩))⟩, by omega⟩
    refine v_skip <| p_blkN <| p_seqN <| v_ops <| s_pure (.int .i64 ((k : Int) + 1)) (fun _ q => ArithVC.mk (by omega) q) <| s_pq (.int .i64 ((k : Int) + 1)) <| s_nil ?_
    have f59 := (((bxb1.ext eh30).mod mh33 (by simp; omega)).ext eh42)
    have f60 := (f36.ext eh42)
    exact p_lpN ⟨k + 1, d1, g1, y1, ⟨rfl, rfl, rfl, rfl, rfl, rfl, rfl⟩, ⟨E43, f59, (sl_eq f60 (by simp)), (fr_y1.mono (by omega)), np_b1_y1, (by first | exact ⟨by omega, hM1, hle1, hlt, fun h => (hcl1 h).snoc (by assumption) (fun hp => by simp_all)⟩ | (have hx_ := (by assumption : n.links[k]? = some x28); have hb_ := bb_two (d := d1) (i := x28.a.toNat) (j := x28.b.toNat) (by assumption) (by assumption) (by assumption); have ht_ := two_lt hb_.1; have hm_ := hM1.two (sel_at hx_ (by assumption)) (hn.at hx_) hb_.2; exact ⟨by omega, hm_, by omega, fun _ => by omega, fun h => by cases h⟩))⟩, by omega⟩
   have c41 := Classical.not_not.1 c41
   refine d_passT rfl <| d_passT rfl <| d_passO rfl <| d_pq (.bool false) <| d_done <| p_seqN <| v_condN rfl (by simp) <| v_skip <| p_blkN <| p_seqN <| v_ops <| s_pure (.int .i64 ((k : Int) + 1)) (fun _ q => ArithVC.mk (by omega) q) <| s_pq (.int .i64 ((k : Int) + 1)) <| s_nil ?_
   have f61 := ((bxb1.ext eh30).mod mh33 (by simp; omega))
   exact p_lpN ⟨k + 1, d1, g1, y1, ⟨rfl, rfl, rfl, rfl, rfl, rfl, rfl⟩, ⟨E35, f61, (sl_eq f36 (by simp)), (fr_y1.mono (by omega)), np_b1_y1, (by first | exact ⟨by omega, hM1, hle1, hlt, fun h => (hcl1 h).snoc (by assumption) (fun hp => by simp_all)⟩ | (have hx_ := (by assumption : n.links[k]? = some x28); have hb_ := bb_two (d := d1) (i := x28.a.toNat) (j := x28.b.toNat) (by assumption) (by assumption) (by assumption); have ht_ := two_lt hb_.1; have hm_ := hM1.two (sel_at hx_ (by assumption)) (hn.at hx_) hb_.2; exact ⟨by omega, hm_, by omega, fun _ => by omega, fun h => by cases h⟩))⟩, by omega⟩
  refine v_exit <| p_seqX <| p_lpX <| p_blkX <| p_blkN ?_
  exact p_lpN ⟨d1, g1, y1, ⟨rfl, rfl, rfl, rfl⟩, ⟨Eh, bxb1, (sl_eq s_y1 (by simp)), (fr_y1.mono (by omega)), np_b1_y1, (by exact ⟨hM1, fun h => by (have e := hcl1 h); intro j x hj; exact e j x (by omega)⟩)⟩, by first | omega | (have hg1 := hlt; have hg2 := hle1; split <;> (try split) <;> simp_all <;> omega)⟩
 refine v_exit <| p_seqX <| p_lpX <| p_blkX <| p_seqN <| v_seq <| v_ops <| s_pq (.slice none 0 0) <| s_nil <| p_seqN <| v_seq <| v_seq <| v_ops <| s_pq y <| s_pure (.int .i64 (d.length : Int)) (fun _ q => s_y.lenVC q) <| s_pq (.int .i64 0) <| s_nil <| p_seqN <| v_block <| v_loop3 (α := Nat) (β := List Int) (γ := Value) (fun k o w => [(11, w), (55, y), (56, .int .i64 (d.length : Int)), (57, .int .i64 (k : Int))]) (fun k o w hh => Ext h hh ∧ SlO hh w o ∧ Fr h.size w ∧ SlO hh y d ∧ (∀ b ∈ blks y, b ∉ blks w) ∧ k ≤ d.length ∧ o = idxTo (fun i => rcB (selTo (fun i => p (i : Int)) n.links n.links.length) a (i : Int)) k) (fun k o w => d.length - k) 0 [] (.slice none 0 0) ⟨rfl, rfl, rfl, rfl⟩ ⟨Eh, (sl_eq (SlX.nil (α := Int) true h14) (by simp)), (Fr.nil _), s_y, (fun b hb hc => by simp [blks, fpts] at hc), (by exact ⟨by omega, rfl⟩)⟩ ?_
 rintro k o w R63 h62 ⟨Eh, s_w, fr_w, s_y, np_y_w, ⟨hk, ho⟩⟩
 have zEh := Eh.size
 have ltk_y := s_y.lt
 have hol := idx_len (fun i => rcB (selTo (fun i => p (i : Int)) n.links n.links.length) a (i : Int)) k
 rw [← ho] at hol
 refine v_seq <| v_ops <| s_pq (.bool (decide ((k : Int) < (d.length : Int)))) <| s_nil <| p_seqN <| v_seq ?_
 refine v_cond rfl (fun c67 => ?_) (fun c67 => ?_)
 ·
  refine v_skip <| p_seqN <| v_seq <| v_block <| v_seq <| v_ops <| s_pq (.int .i64 (k : Int)) ?_
  have hk68 : k < d.length := (by first | omega | (simp; omega))
  obtain ⟨x69, hx69⟩ : ∃ x, d[k]? = some x := ⟨_, List.getElem?_eq_getElem hk68⟩
  refine s_pure (.pointer (some ⟨sblk y, soff y + k * 1, none⟩)) (fun _ q => s_y.idx (k := k) rfl hk68 q) <| s_load (.bool x69) (fun _ q => s_y.load1 hx69 rfl q) <| s_pq (.int .i64 (k : Int)) <| s_pq (.bool x69) <| s_nil <| p_seqN <| v_seq <| v_ops <| s_pq (.bool x69) <| s_nil <| p_seqN ?_
  refine v_cond rfl (fun c70 => ?_) (fun c70 => ?_)
  ·
   refine v_ops <| s_pq w <| s_pq (.int .i64 (k : Int)) ?_
   refine s_row (α := Int) [(k : Int)] (fun _ q => seg_i rfl (seg_nil q)) rfl (by simp [maxLen]) (fun r71 h72 eh72 zh72 s_r71 fr_r71 => ?_)
   have E73 := Eh.trans eh72
   have z74 := eh72.size
   have f75 := (s_w.ext eh72)
   refine s_app f75 s_r71 rfl rfl rfl (by simp [maxLen]; omega) (by simp; omega) (fun r76 h77 mh77 zh77 s_r76 ab_r76 => ?_)
   have E78 := E73.mod mh77 (fun b hb => by have := fr_w b hb; omega)
   have fr_r76 := fr_w.app ab_r76 (by omega)
   have np80 : ∀ b ∈ blks y, b ∉ blks r76 := fun b hb hc => (ab_r76 _ hc).elim ((np_y_w : ∀ b ∈ blks y, b ∉ blks w) b hb) (fun hc => by have := ltk_y b hb; omega)
   refine s_pq r76 <| s_nil <| p_blkN <| p_seqN <| v_ops <| s_pure (.int .i64 ((k : Int) + 1)) (fun _ q => ArithVC.mk (by omega) q) <| s_pq (.int .i64 ((k : Int) + 1)) <| s_nil ?_
   have f82 := ((s_y.ext eh72).mod mh77 np_y_w)
   exact p_lpN ⟨k + 1, (o ++ [(k : Int)]), r76, ⟨rfl, rfl, rfl, rfl⟩, ⟨E78, (sl_eq s_r76 (by simp)), (fr_r76.mono (by omega)), f82, np80, (by (have hb_ := rb_out hn ha.1 hM (hcl (by simp_all)) (by assumption)); first | exact ⟨by omega, by rw [ho]; exact (idx_yes (by rw [← hb_]; assumption)).symm⟩ | exact ⟨by omega, by rw [ho]; exact (idx_no (by rw [← hb_]; assumption)).symm⟩)⟩, by omega⟩
  refine v_skip <| p_blkN <| p_seqN <| v_ops <| s_pure (.int .i64 ((k : Int) + 1)) (fun _ q => ArithVC.mk (by omega) q) <| s_pq (.int .i64 ((k : Int) + 1)) <| s_nil ?_
  exact p_lpN ⟨k + 1, o, w, ⟨rfl, rfl, rfl, rfl⟩, ⟨Eh, (sl_eq s_w (by simp)), (fr_w.mono (by omega)), s_y, np_y_w, (by (have hb_ := rb_out hn ha.1 hM (hcl (by simp_all)) (by assumption)); first | exact ⟨by omega, by rw [ho]; exact (idx_yes (by rw [← hb_]; assumption)).symm⟩ | exact ⟨by omega, by rw [ho]; exact (idx_no (by rw [← hb_]; assumption)).symm⟩)⟩, by omega⟩
 refine v_exit <| p_seqX <| p_lpX <| p_blkX <| p_seqN <| v_seq <| v_ops <| s_pq w <| s_pq w <| s_nil <| p_seqN <| v_ret <| p_ret [w] w (fun _ q => q) rfl ?_
 have ho : (reachL n (fun i => p (i : Int)) a) = o := by rw [ho, reachL]; congr 1; omega
 exact ⟨w, by first | (rw [ho]; done) | rfl, sl_eq s_w (congrArg (fun o => o) ho).symm, fr_w.mono (by omega), Eh⟩

end Go.Proofs.Ytloicopmcagikaa


/- What is reached by rows of met towers; towers joined. Condition: none. Printed in part by a program. -/
namespace Go.Proofs.Ytloicopmcagikaa
open Go.Vc
set_option linter.all false

theorem eq_len (a b : Nat) : ((a : Int) == (b : Int)) = decide (a = b) := by
 rw [Bool.eq_iff_iff]; simp only [beq_iff_eq, decide_eq_true_eq]; omega
set_option maxRecDepth 10000 in
set_option maxHeartbeats 4000000 in
theorem spec_neReach_ok (n : NetP) (v_n_towers : Value) (v_n_links : Value) (a : Int) (h : Heap) (s_n_towers : Sl h v_n_towers n.towers) (s_n_links : Sl h v_n_links n.links) (ha : 0 ≤ a ∧ a < (n.towers.length : Int)) (h16 : n.towers.length ≤ 16) (hL : ∀ x ∈ n.links, (0 ≤ x.a ∧ x.a < (n.towers.length : Int)) ∧ 0 ≤ x.b ∧ x.b < (n.towers.length : Int)) : Cn f_spec_neReach [.agg #[v_n_towers, v_n_links], .int .i64 a] h fun v h' => ∃ r0 : Value, v = r0 ∧ SlO h' r0 (idxTo (fun i => rcB n.links a (i : Int)) n.towers.length) ∧ Fr h.size r0 ∧ Ext h h' := by
 have l63_n_towers := s_n_towers.len63
 have l63_n_links := s_n_links.len63
 refine calls_of r_spec_neReach ?_
 refine v_seq <| v_ops ?_
 refine s_box [v_n_towers, v_n_links] rfl (fun h2 b1 hbb1 hzb1 eh2 bxb1 => ?_)
 have E3 := (Ext.refl h).trans eh2
 have z4 := eh2.size
 have lbb1 := bxb1.lt
 refine s_pq (.slice none 0 0) <| s_nil <| p_seqN <| v_seq <| v_ops <| s_pq (.int .i64 a) ?_
 refine s_row (α := Int) [a] (fun _ q => seg_i rfl (seg_nil q)) rfl (by simp [maxLen]) (fun r5 h6 eh6 zh6 s_r5 fr_r5 => ?_)
 have E7 := E3.trans eh6
 have z8 := eh6.size
 refine s_pq r5 <| s_nil <| p_seqN <| v_seq <| v_seq <| v_ops <| s_pq (.int .i64 0) <| s_nil <| p_seqN <| v_block ?_
 have f10 := (bxb1.ext eh6)
 refine v_loop3 (α := Nat) (β := List Int) (γ := Value) (fun k met m => [(2, .pointer (some ⟨b1, 0, none⟩)), (5, m), (6, .int .i64 (k : Int))]) (fun k met m hh => Ext h hh ∧ Bx hh b1 [v_n_towers, v_n_links] 27 ∧ SlO hh m met ∧ Fr h.size m ∧ b1 ∉ blks m ∧ k ≤ met.length ∧ Met n.links n.towers.length a met k) (fun k met m => (met.length - k) + 2 * unm n.towers.length met) 0 [a] r5 ⟨rfl, rfl, rfl⟩ ⟨E7, f10, (sl_eq s_r5 (by simp)), (fr_r5.mono (by omega)), (fun hc => by have := fr_r5 _ hc; omega), (by exact ⟨by omega, met_start ha⟩)⟩ ?_
 rintro k met m R11 h9 ⟨Eh, bxb1, s_m, fr_m, np_b1_m, ⟨hk, hM⟩⟩
 have zEh := Eh.size
 have f13 := s_n_towers.ext Eh
 have f14 := s_n_links.ext Eh
 have lbb1 := bxb1.lt
 have lt_m := s_m.lt
 have hcnt := hM.cnt
 refine v_seq <| v_seq <| v_ops <| s_pq (.int .i64 (k : Int)) <| s_pq m <| s_pure (.int .i64 (met.length : Int)) (fun _ q => s_m.lenVC q) <| s_pq (.bool (decide ((k : Int) < (met.length : Int)))) <| s_nil <| p_seqN ?_
 refine v_cond rfl (fun c15 => ?_) (fun c15 => ?_)
 ·
  refine v_skip <| p_seqN <| v_seq <| v_block <| v_seq <| v_drawF <| d_pq m <| d_pq (.int .i64 (k : Int)) ?_
  have hk16 : k < met.length := (by first | omega | (simp; omega))
  obtain ⟨x17, hx17⟩ : ∃ x, met[k]? = some x := ⟨_, List.getElem?_eq_getElem hk16⟩
  refine d_pureT (.pointer (some ⟨sblk m, soff m + k * 1, none⟩)) (fun _ q => s_m.idx (k := k) rfl hk16 q) <| d_pq (.int .i64 0) <| d_loadO (.agg #[v_n_towers, v_n_links]) (fun _ q => bxb1.loadA rfl q) <| d_loadO (.int .i64 x17) (fun _ q => s_m.load1 hx17 rfl q) <| d_eff <| s_call [.agg #[v_n_towers, v_n_links], .int .i64 x17] rfl (spec_neNext_ok n v_n_towers v_n_links x17 _ f13 f14 (by omega)) ?_
  rintro r18 h19 ⟨_, rfl, s_r18, fr_r18, eh19⟩
  have E20 := Eh.trans eh19
  have z21 := eh19.size
  refine s_nil ⟨fun hl => (by cases hl), ?_⟩
  refine d_pureT (.int .i64 ((idxTo (fun b => nbB n.links x17 (b : Int)) n.towers.length).length : Int)) (fun _ q => s_r18.lenVC q) <| d_done <| p_seqN <| v_block ?_
  have nk24 : b1 ∉ blks r18 := (fun hc => by have := fr_r18 _ hc; omega)
  have f25 := (bxb1.ext eh19)
  have f26 := (s_m.ext eh19)
  refine v_loop3 (α := Nat) (β := List Int) (γ := Value) (fun j m1 y1 => [(2, .pointer (some ⟨b1, 0, none⟩)), (5, y1), (6, .int .i64 (k : Int)), (25, r18), (26, .int .i64 ((idxTo (fun b => nbB n.links x17 (b : Int)) n.towers.length).length : Int)), (27, .int .i64 (j : Int))]) (fun j m1 y1 hh => Ext h hh ∧ Bx hh b1 [v_n_towers, v_n_links] 27 ∧ SlO hh y1 m1 ∧ Fr h.size y1 ∧ SlO hh r18 (idxTo (fun b => nbB n.links x17 (b : Int)) n.towers.length) ∧ b1 ∉ blks y1 ∧ (∀ b ∈ blks r18, b ∉ blks y1) ∧ j ≤ (idxTo (fun b => nbB n.links x17 (b : Int)) n.towers.length).length ∧ Mi n.links n.towers.length a met x17 j m1) (fun j m1 y1 => (idxTo (fun b => nbB n.links x17 (b : Int)) n.towers.length).length - j) 0 met m ⟨rfl, rfl, rfl, rfl, rfl, rfl⟩ ⟨E20, f25, (sl_eq f26 (by simp)), (fr_m.mono (by omega)), s_r18, np_b1_m, (fun b hb hc => by have := fr_r18 b hb; have := lt_m b hc; omega), (by exact ⟨by omega, mi_start hM x17⟩)⟩ ?_
  rintro j m1 y1 R27 h23 ⟨Eh, bxb1, s_y1, fr_y1, s_r18, np_b1_y1, np_r18_y1, ⟨hj, hmi⟩⟩
  have zEh := Eh.size
  have lbb1 := bxb1.lt
  have ltk_r18 := s_r18.lt
  have hml := hmi.len
  have hnl := idx_len (fun b => nbB n.links x17 (b : Int)) n.towers.length
  have hu_ := List.mem_of_getElem? hx17
  refine v_seq <| v_ops <| s_pq (.bool (decide ((j : Int) < ((idxTo (fun b => nbB n.links x17 (b : Int)) n.towers.length).length : Int)))) <| s_nil <| p_seqN <| v_seq ?_
  refine v_cond rfl (fun c31 => ?_) (fun c31 => ?_)
  ·
   refine v_skip <| p_seqN <| v_seq <| v_block <| v_seq <| v_ops ?_
   have hk32 : j < (idxTo (fun b => nbB n.links x17 (b : Int)) n.towers.length).length := (by first | omega | (simp; omega))
   obtain ⟨x33, hx33⟩ : ∃ x, (idxTo (fun b => nbB n.links x17 (b : Int)) n.towers.length)[j]? = some x := ⟨_, List.getElem?_eq_getElem hk32⟩
   refine s_pure (.pointer (some ⟨sblk r18, soff r18 + j * 1, none⟩)) (fun _ q => s_r18.idx (k := j) rfl hk32 q) <| s_load (.int .i64 x33) (fun _ q => s_r18.load1 hx33 rfl q) <| s_pq (.int .i64 x33) <| s_nil <| p_seqN <| v_seq <| v_ops <| s_pq y1 <| s_pq (.int .i64 x33) <| s_call [y1, .int .i64 x33] rfl (spec_l1Has_ok y1 m1 x33 _ s_y1.toSl) ?_
   rintro _ h34 ⟨rfl, eh34⟩
   have E35 := Eh.trans eh34
   have z36 := eh34.size
   refine s_pq (.bool (!decide (x33 ∈ m1))) <| s_nil <| p_seqN ?_
   refine v_cond rfl (fun c37 => ?_) (fun c37 => ?_)
   ·
    refine v_ops <| s_pq y1 <| s_pq (.int .i64 x33) ?_
    refine s_row (α := Int) [x33] (fun _ q => seg_i rfl (seg_nil q)) rfl (by simp [maxLen]) (fun r38 h39 eh39 zh39 s_r38 fr_r38 => ?_)
    have E40 := E35.trans eh39
    have z41 := eh39.size
    have f42 := ((s_y1.ext eh34).ext eh39)
    refine s_app f42 s_r38 rfl rfl rfl (by simp [maxLen]; omega) (by simp; omega) (fun r43 h44 mh44 zh44 s_r43 ab_r43 => ?_)
    have E45 := E40.mod mh44 (fun b hb => by have := fr_y1 b hb; omega)
    have fr_r43 := fr_y1.app ab_r43 (by omega)
    have np46 : b1 ∉ blks r43 := fun hc => (ab_r43 _ hc).elim np_b1_y1 (fun hc => by omega)
    have np48 : ∀ b ∈ blks r18, b ∉ blks r43 := fun b hb hc => (ab_r43 _ hc).elim ((np_r18_y1 : ∀ b ∈ blks r18, b ∉ blks y1) b hb) (fun hc => by have := ltk_r18 b hb; omega)
    refine s_pq r43 <| s_nil <| p_blkN <| p_seqN <| v_ops <| s_pure (.int .i64 ((j : Int) + 1)) (fun _ q => ArithVC.mk (by omega) q) <| s_pq (.int .i64 ((j : Int) + 1)) <| s_nil ?_
    have f50 := (((bxb1.ext eh34).ext eh39).mod mh44 np_b1_y1)
    have f51 := (((s_r18.ext eh34).ext eh39).mod mh44 np_r18_y1)
    exact p_lpN ⟨j + 1, (m1 ++ [x33]), r43, ⟨rfl, rfl, rfl, rfl, rfl, rfl⟩, ⟨E45, f50, (sl_eq s_r43 (by simp)), (fr_r43.mono (by omega)), f51, np46, np48, (by first | exact ⟨by omega, hmi.skip (by assumption) (by simp_all)⟩ | exact ⟨by omega, hmi.add hu_ (by assumption) (by simp_all)⟩)⟩, by omega⟩
   have c37 := Classical.not_not.1 c37
   refine v_skip <| p_blkN <| p_seqN <| v_ops <| s_pure (.int .i64 ((j : Int) + 1)) (fun _ q => ArithVC.mk (by omega) q) <| s_pq (.int .i64 ((j : Int) + 1)) <| s_nil ?_
   have f52 := (bxb1.ext eh34)
   have f53 := (s_y1.ext eh34)
   have f54 := (s_r18.ext eh34)
   exact p_lpN ⟨j + 1, m1, y1, ⟨rfl, rfl, rfl, rfl, rfl, rfl⟩, ⟨E35, f52, (sl_eq f53 (by simp)), (fr_y1.mono (by omega)), f54, np_b1_y1, np_r18_y1, (by first | exact ⟨by omega, hmi.skip (by assumption) (by simp_all)⟩ | exact ⟨by omega, hmi.add hu_ (by assumption) (by simp_all)⟩)⟩, by omega⟩
  refine v_exit <| p_seqX <| p_lpX <| p_blkX <| p_blkN <| p_seqN <| v_ops <| s_pq (.int .i64 (k : Int)) <| s_pure (.int .i64 ((k : Int) + 1)) (fun _ q => ArithVC.mk (by omega) q) <| s_pq (.int .i64 ((k : Int) + 1)) <| s_nil ?_
  exact p_lpN ⟨k + 1, m1, y1, ⟨rfl, rfl, rfl⟩, ⟨Eh, bxb1, (sl_eq s_y1 (by simp)), (fr_y1.mono (by omega)), np_b1_y1, (by (have hml := hmi.len); exact ⟨by omega, hmi.ends hM (by assumption) (by omega)⟩)⟩, by (have hml := hmi.len; have hmc := hmi.cnt; omega)⟩
 refine v_exit <| p_seqX <| p_lpX <| p_blkX <| p_seqN <| v_seq <| v_ops <| s_pq (.slice none 0 0) <| s_nil <| p_seqN <| v_seq <| v_seq <| v_ops <| s_pq m <| s_pure (.int .i64 (met.length : Int)) (fun _ q => s_m.lenVC q) <| s_pq (.int .i64 0) <| s_nil <| p_seqN <| v_block <| v_loop3 (α := Nat) (β := List Int) (γ := Value) (fun k2 o w => [(9, w), (40, m), (41, .int .i64 (met.length : Int)), (42, .int .i64 (k2 : Int))]) (fun k2 o w hh => Ext h hh ∧ SlO hh w o ∧ Fr h.size w ∧ SlO hh m met ∧ (∀ b ∈ blks m, b ∉ blks w) ∧ k2 ≤ met.length ∧ o = putAll (met.take k2)) (fun k2 o w => met.length - k2) 0 [] (.slice none 0 0) ⟨rfl, rfl, rfl, rfl⟩ ⟨Eh, (sl_eq (SlX.nil (α := Int) true h9) (by simp)), (Fr.nil _), s_m, (fun b hb hc => by simp [blks, fpts] at hc), (by exact ⟨by omega, rfl⟩)⟩ ?_
 rintro k2 o w R56 h55 ⟨Eh, s_w, fr_w, s_m, np_m_w, ⟨hk2, ho⟩⟩
 have zEh := Eh.size
 have ltk_m := s_m.lt
 have hol := putAll_len met k2
 rw [← ho] at hol
 refine v_seq <| v_ops <| s_pq (.bool (decide ((k2 : Int) < (met.length : Int)))) <| s_nil <| p_seqN <| v_seq ?_
 refine v_cond rfl (fun c60 => ?_) (fun c60 => ?_)
 ·
  refine v_skip <| p_seqN <| v_seq <| v_block <| v_seq <| v_ops ?_
  have hk61 : k2 < met.length := (by first | omega | (simp; omega))
  obtain ⟨x62, hx62⟩ : ∃ x, met[k2]? = some x := ⟨_, List.getElem?_eq_getElem hk61⟩
  refine s_pure (.pointer (some ⟨sblk m, soff m + k2 * 1, none⟩)) (fun _ q => s_m.idx (k := k2) rfl hk61 q) <| s_load (.int .i64 x62) (fun _ q => s_m.load1 hx62 rfl q) <| s_pq (.int .i64 x62) <| s_nil <| p_seqN <| v_ops <| s_pq w <| s_pq (.int .i64 x62) <| s_call [w, .int .i64 x62] rfl (spec_l1Put_ok w o x62 _ s_w (by omega)) ?_
  rintro r63 h64 ⟨_, rfl, s_r63, mh64, ab_r63⟩
  have zh64 := mh64.size
  have E65 := Eh.mod mh64 (fun b hb => by have := fr_w b hb; omega)
  have fr_r63 := fr_w.app ab_r63 (by omega)
  have np67 : ∀ b ∈ blks m, b ∉ blks r63 := fun b hb hc => (ab_r63 _ hc).elim ((np_m_w : ∀ b ∈ blks m, b ∉ blks w) b hb) (fun hc => by have := ltk_m b hb; omega)
  refine s_pq r63 <| s_nil <| p_blkN <| p_seqN <| v_ops <| s_pure (.int .i64 ((k2 : Int) + 1)) (fun _ q => ArithVC.mk (by omega) q) <| s_pq (.int .i64 ((k2 : Int) + 1)) <| s_nil ?_
  have f68 := (s_m.mod mh64 np_m_w)
  exact p_lpN ⟨k2 + 1, putW o x62, r63, ⟨rfl, rfl, rfl, rfl⟩, ⟨E65, (sl_eq s_r63 (by simp)), (fr_r63.mono (by omega)), f68, np67, (by exact ⟨by omega, by rw [snoc_get (by assumption), putAll_snoc, ← ho]⟩)⟩, by omega⟩
 refine v_exit <| p_seqX <| p_lpX <| p_blkX <| p_seqN <| v_seq <| v_ops <| s_pq w <| s_pq w <| s_nil <| p_seqN <| v_ret <| p_ret [w] w (fun _ q => q) rfl ?_
 have ho : (idxTo (fun i => rcB n.links a (i : Int)) n.towers.length) = o := by rw [ho, take_all (by assumption)]; exact (met_out hM (by omega) hL).symm
 exact ⟨w, by first | (rw [ho]; done) | rfl, sl_eq s_w (congrArg (fun o => o) ho).symm, fr_w.mono (by omega), Eh⟩

theorem impl_IsJoined_1_ok (k : Int) (h : Heap)  : Cn f_impl_IsJoined_1 [.int .i64 k] h fun v h' => v = .bool true ∧ Ext h h' := by
 refine calls_of r_impl_IsJoined_1 ?_
 refine v_seq <| v_ops <| s_pq (.bool false) <| s_nil <| p_seqN <| v_seq <| v_ops <| s_pq (.bool true) <| s_nil <| p_seqN <| v_ret <| p_ret [.bool true] (.bool true) (fun _ q => q) rfl ?_
 have ho : true = true := by rfl
 exact ⟨by first | (rw [ho]; done) | rfl, (Ext.refl h)⟩

theorem impl_JoinedAt_1_ok (k : Int) (v_l : Value) (l : List FogD) (p_l : Nat) (t_l : TypeId) (t : Int) (p_t : Nat) (t_t : TypeId) (h : Heap) (s_l : Sl h v_l l) (bx_l : Bx h p_l [v_l] t_l) (bx_t : Bx h p_t [.int .i64 t] t_t) : Cn f_impl_JoinedAt_1 [.int .i64 k, .pointer (some ⟨p_l, 0, none⟩), .pointer (some ⟨p_t, 0, none⟩)] h fun v h' => v = .bool (clF l k t) ∧ Ext h h' := by
 have l63_l := s_l.len63
 have lbx_l := bx_l.lt
 have lbx_t := bx_t.lt
 refine calls_of r_impl_JoinedAt_1 ?_
 refine v_seq <| v_ops <| s_pq (.bool false) <| s_nil <| p_seqN <| v_seq <| v_ops <| s_load v_l (fun _ q => bx_l.load rfl q) <| s_pq (.int .i64 k) <| s_load (.int .i64 t) (fun _ q => bx_t.load rfl q) <| s_call [v_l, .int .i64 k, .int .i64 t] rfl (impl_isClear_ok v_l l k t _ s_l) ?_
 rintro _ h1 ⟨rfl, eh1⟩
 have E2 := (Ext.refl h).trans eh1
 have z3 := eh1.size
 refine s_pq (.bool (clF l k t)) <| s_nil <| p_seqN <| v_ret <| p_ret [.bool (clF l k t)] (.bool (clF l k t)) (fun _ q => q) rfl ?_
 have ho : (clF l k t) = (clF l k t) := by rfl
 exact ⟨by first | (rw [ho]; done) | rfl, E2⟩

theorem impl_IsJoined_ok (n : NetP) (v_n_towers : Value) (v_n_links : Value) (h : Heap) (s_n_towers : Sl h v_n_towers n.towers) (s_n_links : Sl h v_n_links n.links) : Cn f_impl_IsJoined [.agg #[v_n_towers, v_n_links]] h fun v h' => v = .tuple #[.bool ((ijOut n).1), .bool ((ijOut n).2)] ∧ Ext h h' := by
 have l63_n_towers := s_n_towers.len63
 have l63_n_links := s_n_links.len63
 refine calls_of r_impl_IsJoined ?_
 refine v_seq <| v_ops ?_
 refine s_box [v_n_towers, v_n_links] rfl (fun h2 b1 hbb1 hzb1 eh2 bxb1 => ?_)
 have E3 := (Ext.refl h).trans eh2
 have z4 := eh2.size
 have lbb1 := bxb1.lt
 refine s_pq (.bool false) <| s_pq (.bool false) <| s_nil <| p_seqN <| v_seq <| v_seq <| v_ops <| s_load (.agg #[v_n_towers, v_n_links]) (fun _ q => bxb1.loadA rfl q) ?_
 have f5 := (s_n_towers.ext eh2)
 have f6 := (s_n_links.ext eh2)
 refine s_call [.agg #[v_n_towers, v_n_links]] rfl (impl_IsNet_ok n v_n_towers v_n_links _ f5 f6) ?_
 rintro _ h7 ⟨rfl, eh7⟩
 have E8 := E3.trans eh7
 have z9 := eh7.size
 refine s_pq (.bool (!decide (NetOk n))) <| s_nil <| p_seqN ?_
 refine v_cond rfl (fun c10 => ?_) (fun c10 => ?_)
 ·
  refine v_seq <| v_ops <| s_pq (.bool false) <| s_pq (.bool false) <| s_nil <| p_seqN <| v_ret <| p_seqR <| p_ret [.bool false, .bool false] (.tuple #[.bool false, .bool false]) (fun _ q => q) rfl ?_
  have ho : (ijOut n) = (false, false) := by first | exact if_neg (by assumption) | (rw [ijOut, if_pos (by assumption)]; first | rfl | (rw [eq_len]; done) | (rw [eq_len]; rfl))
  exact ⟨by first | (rw [ho]; done) | rfl, E8⟩
 have c10 := Classical.not_not.1 c10
 refine v_skip <| p_seqN <| v_seq ?_
 have f11 := (bxb1.ext eh7)
 refine v_draw (DrawVC.hold ([b1]) ?_)
 refine d_pq (.pointer (some ⟨b1, 0, none⟩)) <| d_loadO (.agg #[v_n_towers, v_n_links]) (fun _ q => f11.loadA rfl q) <| d_loadT v_n_towers (fun _ q => f11.take (by simp) rfl q) <| d_pureT (.int .i64 (n.towers.length : Int)) (fun _ q => f5.lenVC q) <| d_eff ?_
 have f14 := (f5.ext eh7)
 have f15 := (f6.ext eh7)
 refine s_call [.agg #[v_n_towers, v_n_links], .int .i64 0, .func (.func 58) #[] #[]] rfl (impl_reachBy_ok n v_n_towers v_n_links 0 58 #[] #[] (fun x : Int => true) _ f14 f15 (fun x h2 e2 => impl_IsJoined_1_ok x  h2 ) (by assumption : NetOk n) ⟨by omega, by (have q_ := (by assumption : NetOk n).t1); omega⟩) ?_
 rintro r13 h12 ⟨_, rfl, s_r13, fr_r13, eh12⟩
 have E16 := E8.trans eh12
 have z17 := eh12.size
 have G18 := eh12
 refine s_nil ⟨fun _ x hx => G18.blk x (by simp at hx; omega), ?_⟩
 refine d_pureT (.int .i64 ((reachL n (fun i => true) 0).length : Int)) (fun _ q => s_r13.lenVC q) <| d_pq (.bool (((reachL n (fun i => true) 0).length : Int) == (n.towers.length : Int))) <| d_pq (.bool (((reachL n (fun i => true) 0).length : Int) == (n.towers.length : Int))) <| d_pq (.bool true) <| d_done <| p_seqN <| v_ret <| p_ret [.bool (((reachL n (fun i => true) 0).length : Int) == (n.towers.length : Int)), .bool true] (.tuple #[.bool (((reachL n (fun i => true) 0).length : Int) == (n.towers.length : Int)), .bool true]) (fun _ q => q) rfl ?_
 have ho : (ijOut n) = ((((reachL n (fun i => true) 0).length : Int) == (n.towers.length : Int)), true) := by first | exact if_neg (by assumption) | (rw [ijOut, if_pos (by assumption)]; first | rfl | (rw [eq_len]; done) | (rw [eq_len]; rfl))
 exact ⟨by first | (rw [ho]; done) | rfl, E16⟩

set_option maxRecDepth 10000 in
set_option maxHeartbeats 4000000 in
theorem impl_JoinedAt_ok (n : NetP) (v_n_towers : Value) (v_n_links : Value) (v_l : Value) (l : List FogD) (t : Int) (h : Heap) (s_n_towers : Sl h v_n_towers n.towers) (s_n_links : Sl h v_n_links n.links) (s_l : Sl h v_l l) : Cn f_impl_JoinedAt [.agg #[v_n_towers, v_n_links], v_l, .int .i64 t] h fun v h' => v = .tuple #[.bool ((jnOut n l t).1), .bool ((jnOut n l t).2)] ∧ Ext h h' := by
 have l63_n_towers := s_n_towers.len63
 have l63_n_links := s_n_links.len63
 have l63_l := s_l.len63
 refine calls_of r_impl_JoinedAt ?_
 refine v_seq <| v_ops ?_
 refine s_box [v_n_towers, v_n_links] rfl (fun h2 b1 hbb1 hzb1 eh2 bxb1 => ?_)
 have E3 := (Ext.refl h).trans eh2
 have z4 := eh2.size
 have lbb1 := bxb1.lt
 refine s_box [v_l] s_l.cellsv (fun h6 b5 hbb5 hzb5 eh6 bxb5 => ?_)
 have E7 := E3.trans eh6
 have z8 := eh6.size
 have lbb5 := bxb5.lt
 refine s_box [.int .i64 t] rfl (fun h10 b9 hbb9 hzb9 eh10 bxb9 => ?_)
 have E11 := E7.trans eh10
 have z12 := eh10.size
 have lbb9 := bxb9.lt
 refine s_pq (.bool false) <| s_pq (.bool false) <| s_nil <| p_seqN <| v_seq <| v_seq <| v_ops ?_
 have f13 := ((bxb1.ext eh6).ext eh10)
 refine s_load (.agg #[v_n_towers, v_n_links]) (fun _ q => f13.loadA rfl q) ?_
 have f14 := (((s_n_towers.ext eh2).ext eh6).ext eh10)
 have f15 := (((s_n_links.ext eh2).ext eh6).ext eh10)
 refine s_call [.agg #[v_n_towers, v_n_links]] rfl (impl_IsNet_ok n v_n_towers v_n_links _ f14 f15) ?_
 rintro _ h16 ⟨rfl, eh16⟩
 have E17 := E11.trans eh16
 have z18 := eh16.size
 refine s_pq (.bool (!decide (NetOk n))) <| s_pq (.bool (!decide (NetOk n))) ?_
 refine s_splitT rfl (fun c19 => ?_) (fun c19 => ?_)
 ·
  refine s_pass rfl <| s_pass rfl <| s_pass rfl <| s_pass rfl <| s_pq (.bool true) <| s_pq (.bool true) <| s_splitY rfl rfl <| s_pass rfl <| s_pass rfl <| s_pass rfl <| s_pq (.bool true) <| s_nil <| p_seqN <| v_condY rfl rfl <| v_seq <| v_ops <| s_pq (.bool false) <| s_pq (.bool false) <| s_nil <| p_seqN <| v_ret <| p_seqR <| p_ret [.bool false, .bool false] (.tuple #[.bool false, .bool false]) (fun _ q => q) rfl ?_
  have ho : (jnOut n l t) = (false, false) := by first | exact if_neg (by rintro ⟨q1, q2, q3⟩; first | contradiction | omega) | (rw [jnOut, if_pos ⟨by assumption, by assumption, by omega⟩]; first | rfl | (rw [eq_len]; done) | (rw [eq_len]; rfl))
  exact ⟨by first | (rw [ho]; done) | rfl, E17⟩
 have c19 := Classical.not_not.1 c19
 refine s_run rfl ?_
 have f20 := (f13.ext eh16)
 refine s_load (.agg #[v_n_towers, v_n_links]) (fun _ q => f20.loadA rfl q) <| s_run rfl ?_
 have f21 := ((bxb5.ext eh10).ext eh16)
 refine s_load v_l (fun _ q => f21.load rfl q) <| s_run rfl ?_
 have f22 := (f14.ext eh16)
 have f23 := (f15.ext eh16)
 have f24 := ((((s_l.ext eh2).ext eh6).ext eh10).ext eh16)
 refine s_call [.agg #[v_n_towers, v_n_links], v_l] rfl (impl_areFogs_ok n v_n_towers v_n_links v_l l _ f22 f23 f24) ?_
 rintro _ h25 ⟨rfl, eh25⟩
 have E26 := E17.trans eh25
 have z27 := eh25.size
 refine s_run rfl <| s_pq (.bool (!(decide (FogsOk n.links.length l)))) <| s_pq (.bool (!(decide (FogsOk n.links.length l)))) <| s_pq (.bool (!(decide (FogsOk n.links.length l)))) ?_
 refine s_splitT rfl (fun c28 => ?_) (fun c28 => ?_)
 ·
  refine s_pass rfl <| s_pass rfl <| s_pass rfl <| s_pq (.bool true) <| s_nil <| p_seqN <| v_condY rfl rfl <| v_seq <| v_ops <| s_pq (.bool false) <| s_pq (.bool false) <| s_nil <| p_seqN <| v_ret <| p_seqR <| p_ret [.bool false, .bool false] (.tuple #[.bool false, .bool false]) (fun _ q => q) rfl ?_
  have ho : (jnOut n l t) = (false, false) := by first | exact if_neg (by rintro ⟨q1, q2, q3⟩; first | contradiction | omega) | (rw [jnOut, if_pos ⟨by assumption, by assumption, by omega⟩]; first | rfl | (rw [eq_len]; done) | (rw [eq_len]; rfl))
  exact ⟨by first | (rw [ho]; done) | rfl, E26⟩
 have c28 := Classical.not_not.1 c28
 refine s_run rfl ?_
 have f29 := ((bxb9.ext eh16).ext eh25)
 refine s_load (.int .i64 t) (fun _ q => f29.load rfl q) <| s_run rfl <| s_callS [.int .i64 t, .int .i64 0, .int .i64 10000] (.bool (decide (0 ≤ t ∧ t ≤ 10000))) rfl (within_ok t 0 10000 _ ) <| s_run rfl <| s_pq (.bool (!(decide (0 ≤ t ∧ t ≤ 10000)))) <| s_pq (.bool (!(decide (0 ≤ t ∧ t ≤ 10000)))) <| s_nil <| p_seqN ?_
 refine v_cond rfl (fun c30 => ?_) (fun c30 => ?_)
 ·
  refine v_seq <| v_ops <| s_pq (.bool false) <| s_pq (.bool false) <| s_nil <| p_seqN <| v_ret <| p_seqR <| p_ret [.bool false, .bool false] (.tuple #[.bool false, .bool false]) (fun _ q => q) rfl ?_
  have ho : (jnOut n l t) = (false, false) := by first | exact if_neg (by rintro ⟨q1, q2, q3⟩; first | contradiction | omega) | (rw [jnOut, if_pos ⟨by assumption, by assumption, by omega⟩]; first | rfl | (rw [eq_len]; done) | (rw [eq_len]; rfl))
  exact ⟨by first | (rw [ho]; done) | rfl, E26⟩
 have c30 := Classical.not_not.1 c30
 refine v_skip <| p_seqN <| v_seq <| v_ops ?_
 have f31 := (f20.ext eh25)
 refine s_load (.agg #[v_n_towers, v_n_links]) (fun _ q => f31.loadA rfl q) <| s_pq (.func (.func 56) #[] #[.pointer (some ⟨b5, 0, none⟩), .pointer (some ⟨b9, 0, none⟩)]) ?_
 have f34 := (f22.ext eh25)
 have f35 := (f23.ext eh25)
 have f36 := (f24.ext eh25)
 have f37 := (f21.ext eh25)
 refine s_call [.agg #[v_n_towers, v_n_links], .int .i64 0, .func (.func 56) #[] #[.pointer (some ⟨b5, 0, none⟩), .pointer (some ⟨b9, 0, none⟩)]] rfl (impl_reachBy_ok n v_n_towers v_n_links 0 56 #[] #[.pointer (some ⟨b5, 0, none⟩), .pointer (some ⟨b9, 0, none⟩)] (fun x : Int => (clF l x t)) _ f34 f35 (fun x h2 e2 => impl_JoinedAt_1_ok x v_l l b5 28 t b9 3 h2 (f36.ext e2) (f37.ext e2) (f29.ext e2)) (by assumption : NetOk n) ⟨by omega, by (have q_ := (by assumption : NetOk n).t1); omega⟩) ?_
 rintro r33 h32 ⟨_, rfl, s_r33, fr_r33, eh32⟩
 have E38 := E26.trans eh32
 have z39 := eh32.size
 refine s_pq r33 <| s_nil <| p_seqN <| v_seq <| v_ops <| s_pq r33 <| s_pure (.int .i64 ((reachL n (fun i => (clF l (i : Int) t)) 0).length : Int)) (fun _ q => s_r33.lenVC q) <| s_pq (.pointer (some ⟨b1, 0, none⟩)) ?_
 have f40 := (f31.ext eh32)
 refine s_load v_n_towers (fun _ q => f40.load rfl q) <| s_pure (.int .i64 (n.towers.length : Int)) (fun _ q => f34.lenVC q) <| s_pq (.bool (((reachL n (fun i => (clF l (i : Int) t)) 0).length : Int) == (n.towers.length : Int))) <| s_pq (.bool (((reachL n (fun i => (clF l (i : Int) t)) 0).length : Int) == (n.towers.length : Int))) <| s_pq (.bool true) <| s_nil <| p_seqN <| v_ret <| p_ret [.bool (((reachL n (fun i => (clF l (i : Int) t)) 0).length : Int) == (n.towers.length : Int)), .bool true] (.tuple #[.bool (((reachL n (fun i => (clF l (i : Int) t)) 0).length : Int) == (n.towers.length : Int)), .bool true]) (fun _ q => q) rfl ?_
 have ho : (jnOut n l t) = ((((reachL n (fun i => (clF l (i : Int) t)) 0).length : Int) == (n.towers.length : Int)), true) := by first | exact if_neg (by rintro ⟨q1, q2, q3⟩; first | contradiction | omega) | (rw [jnOut, if_pos ⟨by assumption, by assumption, by omega⟩]; first | rfl | (rw [eq_len]; done) | (rw [eq_len]; rfl))
 exact ⟨by first | (rw [ho]; done) | rfl, E38⟩


theorem sel_in {n : NetP} (hn : NetOk n) {p : Nat → Bool} {k : Nat} : ∀ x ∈ selTo p n.links k, (0 ≤ x.a ∧ x.a < (n.towers.length : Int)) ∧ 0 ≤ x.b ∧ x.b < (n.towers.length : Int) := by
 intro x hx
 obtain ⟨i, _, hi, _⟩ := mem_sel.1 hx
 have := hn.at hi
 unfold LinkOk at this; omega

set_option maxRecDepth 10000 in
set_option maxHeartbeats 4000000 in
theorem spec_JoinedAt_ok (n : NetP) (v_n_towers : Value) (v_n_links : Value) (v_l : Value) (l : List FogD) (t : Int) (h : Heap) (s_n_towers : Sl h v_n_towers n.towers) (s_n_links : Sl h v_n_links n.links) (s_l : Sl h v_l l) : Cn f_spec_JoinedAt [.agg #[v_n_towers, v_n_links], v_l, .int .i64 t] h fun v h' => v = .tuple #[.bool ((jnOut n l t).1), .bool ((jnOut n l t).2)] ∧ Ext h h' := by
 have l63_n_towers := s_n_towers.len63
 have l63_n_links := s_n_links.len63
 have lt_l := s_l.lt
 have l63_l := s_l.len63
 refine calls_of r_spec_JoinedAt ?_
 refine v_seq <| v_ops ?_
 refine s_box [v_n_towers, v_n_links] rfl (fun h2 b1 hbb1 hzb1 eh2 bxb1 => ?_)
 have E3 := (Ext.refl h).trans eh2
 have z4 := eh2.size
 have lbb1 := bxb1.lt
 refine s_pq (.bool false) <| s_pq (.bool false) <| s_nil <| p_seqN <| v_seq <| v_seq <| v_ops <| s_load (.agg #[v_n_towers, v_n_links]) (fun _ q => bxb1.loadA rfl q) ?_
 have f5 := (s_n_towers.ext eh2)
 have f6 := (s_n_links.ext eh2)
 refine s_call [.agg #[v_n_towers, v_n_links]] rfl (spec_neGood_ok n v_n_towers v_n_links _ f5 f6) ?_
 rintro _ h7 ⟨rfl, eh7⟩
 have E8 := E3.trans eh7
 have z9 := eh7.size
 refine s_pq (.bool (!decide (NetOk n))) <| s_pq (.bool (!decide (NetOk n))) ?_
 refine s_splitT rfl (fun c10 => ?_) (fun c10 => ?_)
 ·
  refine s_pass rfl <| s_pass rfl <| s_pass rfl <| s_pass rfl <| s_pq (.bool true) <| s_pq (.bool true) <| s_splitY rfl rfl <| s_pass rfl <| s_pass rfl <| s_pass rfl <| s_pq (.bool true) <| s_nil <| p_seqN <| v_condY rfl rfl <| v_seq <| v_ops <| s_pq (.bool false) <| s_pq (.bool false) <| s_nil <| p_seqN <| v_ret <| p_seqR <| p_ret [.bool false, .bool false] (.tuple #[.bool false, .bool false]) (fun _ q => q) rfl ?_
  have ho : (jnOut n l t) = (false, false) := by first | exact if_neg (by rintro ⟨q1, q2, q3⟩; first | contradiction | omega) | (rw [jnOut, if_pos ⟨by assumption, by assumption, by omega⟩, reachL, hls, show k = n.links.length by omega]; first | rfl | (rw [eq_len]; done) | (rw [eq_len]; rfl))
  exact ⟨by first | (rw [ho]; done) | rfl, E8⟩
 have c10 := Classical.not_not.1 c10
 refine s_run rfl ?_
 have f11 := (bxb1.ext eh7)
 refine s_load (.agg #[v_n_towers, v_n_links]) (fun _ q => f11.loadA rfl q) <| s_run rfl <| s_pq v_l <| s_run rfl ?_
 have f12 := (f5.ext eh7)
 have f13 := (f6.ext eh7)
 have f14 := ((s_l.ext eh2).ext eh7)
 refine s_call [.agg #[v_n_towers, v_n_links], v_l] rfl (spec_fgGood_ok n v_n_towers v_n_links v_l l _ f12 f13 f14) ?_
 rintro _ h15 ⟨rfl, eh15⟩
 have E16 := E8.trans eh15
 have z17 := eh15.size
 refine s_run rfl <| s_pq (.bool (!(decide (FogsOk n.links.length l)))) <| s_pq (.bool (!(decide (FogsOk n.links.length l)))) <| s_pq (.bool (!(decide (FogsOk n.links.length l)))) ?_
 refine s_splitT rfl (fun c18 => ?_) (fun c18 => ?_)
 ·
  refine s_pass rfl <| s_pass rfl <| s_pass rfl <| s_pq (.bool true) <| s_nil <| p_seqN <| v_condY rfl rfl <| v_seq <| v_ops <| s_pq (.bool false) <| s_pq (.bool false) <| s_nil <| p_seqN <| v_ret <| p_seqR <| p_ret [.bool false, .bool false] (.tuple #[.bool false, .bool false]) (fun _ q => q) rfl ?_
  have ho : (jnOut n l t) = (false, false) := by first | exact if_neg (by rintro ⟨q1, q2, q3⟩; first | contradiction | omega) | (rw [jnOut, if_pos ⟨by assumption, by assumption, by omega⟩, reachL, hls, show k = n.links.length by omega]; first | rfl | (rw [eq_len]; done) | (rw [eq_len]; rfl))
  exact ⟨by first | (rw [ho]; done) | rfl, E16⟩
 have c18 := Classical.not_not.1 c18
 refine s_run rfl <| s_pq (.int .i64 t) <| s_run rfl <| s_callS [.int .i64 t] (.bool (decide (0 ≤ t ∧ t ≤ 10000))) rfl (spec_fgTime_ok t _ ) <| s_run rfl <| s_pq (.bool (!(decide (0 ≤ t ∧ t ≤ 10000)))) <| s_pq (.bool (!(decide (0 ≤ t ∧ t ≤ 10000)))) <| s_nil <| p_seqN ?_
 refine v_cond rfl (fun c19 => ?_) (fun c19 => ?_)
 ·
  refine v_seq <| v_ops <| s_pq (.bool false) <| s_pq (.bool false) <| s_nil <| p_seqN <| v_ret <| p_seqR <| p_ret [.bool false, .bool false] (.tuple #[.bool false, .bool false]) (fun _ q => q) rfl ?_
  have ho : (jnOut n l t) = (false, false) := by first | exact if_neg (by rintro ⟨q1, q2, q3⟩; first | contradiction | omega) | (rw [jnOut, if_pos ⟨by assumption, by assumption, by omega⟩, reachL, hls, show k = n.links.length by omega]; first | rfl | (rw [eq_len]; done) | (rw [eq_len]; rfl))
  exact ⟨by first | (rw [ho]; done) | rfl, E16⟩
 have c19 := Classical.not_not.1 c19
 refine v_skip <| p_seqN <| v_seq <| v_ops <| s_pq (.pointer (some ⟨b1, 0, none⟩)) ?_
 have f20 := (f11.ext eh15)
 refine s_load v_n_towers (fun _ q => f20.load rfl q) <| s_pure (.agg #[v_n_towers, .slice none 0 0]) (fun _ q => w_build (seg_sl f12 rfl (seg_nil q))) ?_
 refine s_new (fun h22 b21 hbb21 hzb21 eh22 bxb21 => ?_)
 have E23 := E16.trans eh22
 have z24 := eh22.size
 have lbb21 := bxb21.lt
 refine s_stBx (.agg #[v_n_towers, .slice none 0 0]) [v_n_towers, .slice none 0 0] [v_n_towers, .slice none 0 0] bxb21 rfl rfl rfl rfl (by simp) (all_cons f12.one1 (all_cons rfl all_nil)) rfl (fun h25 mh25 sh25 bxx26 => ?_)
 have E27 := E23.mod mh25 (fun b hb => by simp at hb; omega)
 refine s_nil <| p_seqN <| v_seq <| v_seq <| v_ops <| s_pq (.pointer (some ⟨b1, 1, none⟩)) ?_
 have f28 := ((f20.ext eh22).mod mh25 (by simp; omega))
 refine s_load v_n_links (fun _ q => f28.load rfl q) <| s_pure (.int .i64 (n.links.length : Int)) (fun _ q => f13.lenVC q) <| s_pq (.int .i64 0) <| s_nil <| p_seqN <| v_block <| v_loop3 (α := Nat) (β := List LinkD) (γ := Value) (fun k ls o => [(1, v_l), (2, .int .i64 t), (3, .pointer (some ⟨b1, 0, none⟩)), (8, .pointer (some ⟨b21, 0, none⟩)), (29, v_n_links), (30, .int .i64 (n.links.length : Int)), (31, .int .i64 (k : Int))]) (fun k ls o hh => Ext h hh ∧ Bx hh b1 [v_n_towers, v_n_links] 27 ∧ Bx hh b21 [v_n_towers, o] 27 ∧ SlO hh o ls ∧ Fr h.size o ∧ b1 ∉ blks o ∧ b21 ∉ blks o ∧ k ≤ n.links.length ∧ ls = selTo (fun i => clF l (i : Int) t) n.links k) (fun k ls o => n.links.length - k) 0 [] (.slice none 0 0) ⟨rfl, rfl, rfl, rfl, rfl, rfl, rfl⟩ ⟨E27, f28, bxx26, (sl_eq (SlX.nil (α := LinkD) true h25) (by simp)), (Fr.nil _), (by simp [blks, fpts]), (by simp [blks, fpts]), (by exact ⟨by omega, rfl⟩)⟩ ?_
 rintro k ls o R30 h29 ⟨Eh, bxb1, bxb21, s_o, fr_o, np_b1_o, np_b21_o, ⟨hk, hls⟩⟩
 have zEh := Eh.size
 have f32 := s_n_towers.ext Eh
 have f33 := s_n_links.ext Eh
 have f34 := s_l.ext Eh
 have lbb1 := bxb1.lt
 have lbb21 := bxb21.lt
 have lt_o := s_o.lt
 have h40 := (by assumption : NetOk n).l2
 have hol := sel_len (fun i => clF l (i : Int) t) n.links k
 rw [← hls] at hol
 refine v_seq <| v_ops <| s_pq (.bool (decide ((k : Int) < (n.links.length : Int)))) <| s_nil <| p_seqN <| v_seq ?_
 refine v_cond rfl (fun c35 => ?_) (fun c35 => ?_)
 ·
  refine v_skip <| p_seqN <| v_seq <| v_block <| v_seq <| v_ops <| s_pq (.int .i64 (k : Int)) ?_
  have hk36 : k < n.links.length := (by first | omega | (simp; omega))
  obtain ⟨x37, hx37⟩ : ∃ x, n.links[k]? = some x := ⟨_, List.getElem?_eq_getElem hk36⟩
  refine s_pure (.pointer (some ⟨sblk v_n_links, soff v_n_links + k * 3, none⟩)) (fun _ q => f33.idx (k := k) rfl hk36 q) <| s_load (.agg #[.int .i64 x37.a, .int .i64 x37.b, .int .i64 x37.delay]) (fun _ q => f33.loadN hx37 rfl q) ?_
  refine s_new (fun h39 b38 hbb38 hzb38 eh39 bxb38 => ?_)
  have E40 := Eh.trans eh39
  have z41 := eh39.size
  have lbb38 := bxb38.lt
  refine s_pq (.int .i64 (k : Int)) ?_
  refine s_stBx (.agg #[.int .i64 x37.a, .int .i64 x37.b, .int .i64 x37.delay]) [.int .i64 x37.a, .int .i64 x37.b, .int .i64 x37.delay] [.int .i64 x37.a, .int .i64 x37.b, .int .i64 x37.delay] bxb38 rfl rfl rfl rfl (by simp) (all_cons rfl (all_cons rfl (all_cons rfl all_nil))) rfl (fun h42 mh42 sh42 bxx43 => ?_)
  have E44 := E40.mod mh42 (fun b hb => by simp at hb; omega)
  refine s_nil <| p_seqN <| v_seq <| v_ops <| s_pq v_l <| s_pq (.int .i64 (k : Int)) <| s_pq (.int .i64 t) ?_
  have f45 := ((f34.ext eh39).mod mh42 (fun b hb hc => by simp at hc; have := lt_l b hb; omega))
  refine s_call [v_l, .int .i64 (k : Int), .int .i64 t] rfl (spec_fgClear_ok v_l l (k : Int) t _ f45 _ (by assumption : FogsOk n.links.length l)) ?_
  rintro _ h46 ⟨rfl, eh46⟩
  have E47 := E44.trans eh46
  have z48 := eh46.size
  refine s_nil <| p_seqN ?_
  refine v_cond rfl (fun c49 => ?_) (fun c49 => ?_)
  ·
   refine v_ops <| s_pq (.pointer (some ⟨b21, 1, none⟩)) ?_
   have f50 := (((bxb21.ext eh39).mod mh42 (by simp; omega)).ext eh46)
   refine s_load o (fun _ q => f50.load rfl q) ?_
   have f51 := (bxx43.ext eh46)
   refine s_load (.agg #[.int .i64 x37.a, .int .i64 x37.b, .int .i64 x37.delay]) (fun _ q => f51.loadA rfl q) ?_
   refine s_row (α := LinkD) [(⟨x37.a, x37.b, x37.delay⟩ : LinkD)] (fun _ q => seg_agg rfl rfl (seg_nil q)) rfl (by simp [maxLen]) (fun r52 h53 eh53 zh53 s_r52 fr_r52 => ?_)
   have E54 := E47.trans eh53
   have z55 := eh53.size
   have f56 := ((((s_o.ext eh39).mod mh42 (fun b hb hc => by simp at hc; have := lt_o b hb; omega)).ext eh46).ext eh53)
   refine s_app f56 s_r52 rfl rfl rfl (by simp [maxLen]; omega) (by simp; omega) (fun r57 h58 mh58 zh58 s_r57 ab_r57 => ?_)
   have E59 := E54.mod mh58 (fun b hb => by have := fr_o b hb; omega)
   have fr_r57 := fr_o.app ab_r57 (by omega)
   have np60 : b1 ∉ blks r57 := fun hc => (ab_r57 _ hc).elim np_b1_o (fun hc => by omega)
   have np61 : b21 ∉ blks r57 := fun hc => (ab_r57 _ hc).elim np_b21_o (fun hc => by omega)
   refine s_pq (.pointer (some ⟨b21, 1, none⟩)) ?_
   have f64 := ((f50.ext eh53).mod mh58 np_b21_o)
   refine s_stBx r57 [r57] [v_n_towers, r57] f64 rfl rfl s_r57.cellsv rfl (by simp) (all_cons s_r57.one1 all_nil) rfl (fun h65 mh65 sh65 bxx66 => ?_)
   have E67 := E59.mod mh65 (fun b hb => by simp at hb; omega)
   refine s_nil <| p_blkN <| p_seqN <| v_ops <| s_pure (.int .i64 ((k : Int) + 1)) (fun _ q => ArithVC.mk (by omega) q) <| s_pq (.int .i64 ((k : Int) + 1)) <| s_nil ?_
   have f68 := ((((((bxb1.ext eh39).mod mh42 (by simp; omega)).ext eh46).ext eh53).mod mh58 np_b1_o).mod mh65 (by simp; omega))
   have f69 := (s_r57.mod mh65 (nb1 np61))
   exact p_lpN ⟨k + 1, (ls ++ [(⟨x37.a, x37.b, x37.delay⟩ : LinkD)]), r57, ⟨rfl, rfl, rfl, rfl, rfl, rfl, rfl⟩, ⟨E67, f68, bxx66, (sl_eq f69 (by simp)), (fr_r57.mono (by omega)), np60, np61, (by first | exact ⟨by omega, by rw [hls]; exact (sel_yes (by assumption) (by simp_all)).symm⟩ | exact ⟨by omega, by rw [hls]; exact (sel_no (by simp_all)).symm⟩)⟩, by omega⟩
  refine v_skip <| p_blkN <| p_seqN <| v_ops <| s_pure (.int .i64 ((k : Int) + 1)) (fun _ q => ArithVC.mk (by omega) q) <| s_pq (.int .i64 ((k : Int) + 1)) <| s_nil ?_
  have f70 := (((bxb1.ext eh39).mod mh42 (by simp; omega)).ext eh46)
  have f71 := (((bxb21.ext eh39).mod mh42 (by simp; omega)).ext eh46)
  have f72 := (((s_o.ext eh39).mod mh42 (fun b hb hc => by simp at hc; have := lt_o b hb; omega)).ext eh46)
  exact p_lpN ⟨k + 1, ls, o, ⟨rfl, rfl, rfl, rfl, rfl, rfl, rfl⟩, ⟨E47, f70, f71, (sl_eq f72 (by simp)), (fr_o.mono (by omega)), np_b1_o, np_b21_o, (by first | exact ⟨by omega, by rw [hls]; exact (sel_yes (by assumption) (by simp_all)).symm⟩ | exact ⟨by omega, by rw [hls]; exact (sel_no (by simp_all)).symm⟩)⟩, by omega⟩
 refine v_exit <| p_seqX <| p_lpX <| p_blkX <| p_seqN <| v_seq ?_
 refine v_draw (DrawVC.hold ([b1]) ?_)
 refine d_pq (.pointer (some ⟨b1, 0, none⟩)) <| d_loadO (.agg #[v_n_towers, o]) (fun _ q => bxb21.loadA rfl q) <| d_loadT v_n_towers (fun _ q => bxb1.take (by simp) rfl q) <| d_pureT (.int .i64 (n.towers.length : Int)) (fun _ q => f32.lenVC q) <| d_eff <| s_call [.agg #[v_n_towers, o], .int .i64 0] rfl (spec_neReach_ok (⟨n.towers, ls⟩ : NetP) v_n_towers o 0 _ f32 s_o.toSl ⟨by omega, by (have q_ := (by assumption : NetOk n).t1); simp only; omega⟩ (by assumption : NetOk n).t2 (by rw [hls]; exact sel_in (by assumption : NetOk n))) ?_
 rintro r73 h74 ⟨_, rfl, s_r73, fr_r73, eh74⟩
 have E75 := Eh.trans eh74
 have z76 := eh74.size
 have G77 := eh74
 refine s_nil ⟨fun _ x hx => G77.blk x (by simp at hx; omega), ?_⟩
 refine d_pureT (.int .i64 ((idxTo (fun i => rcB (⟨n.towers, ls⟩ : NetP).links 0 (i : Int)) (⟨n.towers, ls⟩ : NetP).towers.length).length : Int)) (fun _ q => s_r73.lenVC q) <| d_pq (.bool (((idxTo (fun i => rcB (⟨n.towers, ls⟩ : NetP).links 0 (i : Int)) (⟨n.towers, ls⟩ : NetP).towers.length).length : Int) == (n.towers.length : Int))) <| d_pq (.bool (((idxTo (fun i => rcB (⟨n.towers, ls⟩ : NetP).links 0 (i : Int)) (⟨n.towers, ls⟩ : NetP).towers.length).length : Int) == (n.towers.length : Int))) ?_
 refine d_pq (.bool true) <| d_done <| p_seqN <| v_ret <| p_ret [.bool (((idxTo (fun i => rcB (⟨n.towers, ls⟩ : NetP).links 0 (i : Int)) (⟨n.towers, ls⟩ : NetP).towers.length).length : Int) == (n.towers.length : Int)), .bool true] (.tuple #[.bool (((idxTo (fun i => rcB (⟨n.towers, ls⟩ : NetP).links 0 (i : Int)) (⟨n.towers, ls⟩ : NetP).towers.length).length : Int) == (n.towers.length : Int)), .bool true]) (fun _ q => q) rfl ?_
 have ho : (jnOut n l t) = ((((idxTo (fun i => rcB (⟨n.towers, ls⟩ : NetP).links 0 (i : Int)) (⟨n.towers, ls⟩ : NetP).towers.length).length : Int) == (n.towers.length : Int)), true) := by first | exact if_neg (by rintro ⟨q1, q2, q3⟩; first | contradiction | omega) | (rw [jnOut, if_pos ⟨by assumption, by assumption, by omega⟩, reachL, hls, show k = n.links.length by omega]; first | rfl | (rw [eq_len]; done) | (rw [eq_len]; rfl))
 exact ⟨by first | (rw [ho]; done) | rfl, E75⟩

end Go.Proofs.Ytloicopmcagikaa


/- Plain facts for the law of clear times: starts, the foggiest link, parts joined. Condition: none. -/
namespace Go.Proofs.Ytloicopmcagikaa
open Go.Vc
set_option linter.all false
/-- the greatest of the first numbers -/
def mxTo (l : List Int) : Nat → Int
  | 0 => 0
  | 1 => l.getD 0 0
  | k + 2 => if l.getD (k + 1) 0 > mxTo l (k + 1) then l.getD (k + 1) 0 else mxTo l (k + 1)
theorem getD_at {l : List Int} {k : Nat} {x : Int} (h : l[k]? = some x) : l.getD k 0 = x := by simp [List.getD, h]
theorem mx_one {l : List Int} {x : Int} (h : l[0]? = some x) : mxTo l 1 = x := by rw [mxTo, getD_at h]
theorem mx_step {l : List Int} {k : Nat} {x : Int} (h0 : 1 ≤ k) (h : l[k]? = some x) : mxTo l (k + 1) = if x > mxTo l k then x else mxTo l k := by
 obtain ⟨j, rfl⟩ : ∃ j, k = j + 1 := ⟨k - 1, by omega⟩
 rw [mxTo, getD_at h]
theorem mx_facts (l : List Int) (k : Nat) (hk : 0 < k) : (∀ j, j < k → l.getD j 0 ≤ mxTo l k) ∧ ∃ j, j < k ∧ l.getD j 0 = mxTo l k := by
  induction k with
  | zero => omega
  | succ k ih =>
    by_cases h0 : k = 0
    · subst h0
      rw [mxTo]
      exact ⟨fun j hj => by rw [show j = 0 by omega]; exact Int.le_refl _, 0, by omega, rfl⟩
    · obtain ⟨j, rfl⟩ : ∃ j, k = j + 1 := ⟨k - 1, by omega⟩
      obtain ⟨h1, i, h2, h3⟩ := ih (by omega)
      rw [mxTo]
      by_cases c : l.getD (j + 1) 0 > mxTo l (j + 1)
      · rw [if_pos c]
        refine ⟨fun a ha => ?_, j + 1, by omega, rfl⟩
        by_cases e : a = j + 1
        · subst e; exact Int.le_refl _
        · have := h1 a (by omega); omega
      · rw [if_neg c]
        refine ⟨fun a ha => ?_, i, by omega, h3⟩
        by_cases e : a = j + 1
        · subst e; omega
        · exact h1 a (by omega)
theorem firstF_at {p : Int → Bool} {l : List Int} {b : Nat} : ∀ {i : Nat}, i ≤ b → (∀ j x, i ≤ j → j < b → l[j]? = some x → p x = false) → (∃ x, l[b]? = some x ∧ p x = true) → firstF p (l.drop i) i = (b : Int) := by
  intro i hi h1 h2
  obtain ⟨x, hx, hp⟩ := h2
  have hb := (List.getElem?_eq_some_iff.1 hx).1
  generalize hn : b - i = n
  induction n generalizing i with
  | zero =>
    have : i = b := by omega
    subst this
    rw [drop_at hx, firstF, hp]; rfl
  | succ n ih =>
    have hy := List.getElem?_eq_getElem (show i < l.length by omega)
    rw [drop_at hy, firstF, h1 i _ (Nat.le_refl _) (by omega) hy]
    exact ih (by omega) (fun j x hj => h1 j x (by omega)) (by omega)
def bestTo (l : List FogD) : Nat → Int × Int
  | 0 => (0, -1)
  | k + 1 => if fgSec l (k : Int) 0 10000 > (bestTo l k).2 then ((k : Int), fgSec l (k : Int) 0 10000) else bestTo l k
theorem sec_nn (l : List FogD) (k : Int) : 0 ≤ fgSec l k 0 10000 ∧ fgSec l k 0 10000 ≤ 10000 * (l.length : Int) := by
 have := fgSec_bd l k (a := 0) (b := 10000) (by omega) (by omega) l.length
 rwa [List.take_length] at this
theorem best_facts (l : List FogD) (k : Nat) (hk : 0 < k) : ∃ b : Nat, (bestTo l k).1 = (b : Int) ∧ b < k ∧ (bestTo l k).2 = fgSec l (b : Int) 0 10000 ∧ (∀ i : Nat, i < k → fgSec l (i : Int) 0 10000 ≤ (bestTo l k).2) ∧ (∀ i : Nat, i < b → fgSec l (i : Int) 0 10000 < (bestTo l k).2) := by
  induction k with
  | zero => omega
  | succ k ih =>
    by_cases h0 : k = 0
    · subst h0
      have := sec_nn l 0
      have e : bestTo l 1 = (0, fgSec l 0 0 10000) := by
        show (if fgSec l ((0 : Nat) : Int) 0 10000 > -1 then (((0 : Nat) : Int), fgSec l ((0 : Nat) : Int) 0 10000) else (0, -1)) = _
        rw [if_pos (by simp; omega)]; rfl
      rw [e]
      refine ⟨0, rfl, by omega, rfl, fun i hi => ?_, fun i hi => absurd hi (Nat.not_lt_zero _)⟩
      rw [show i = 0 by omega]; exact Int.le_refl _
    · obtain ⟨b, h1, h2, h3, h4, h5⟩ := ih (by omega)
      rw [bestTo]
      by_cases c : fgSec l (k : Int) 0 10000 > (bestTo l k).2
      · rw [if_pos c]
        refine ⟨k, rfl, by omega, rfl, fun i hi => ?_, fun i hi => ?_⟩
        · by_cases e : i = k
          · subst e; exact Int.le_refl _
          · have := h4 i (by omega); simp only; omega
        · have := h4 i hi; simp only; omega
      · rw [if_neg c]
        refine ⟨b, h1, by omega, h3, fun i hi => ?_, h5⟩
        by_cases e : i = k
        · subst e; omega
        · exact h4 i (by omega)
noncomputable def AskB (n : NetP) (l : List FogD) : Prop := NetOk n ∧ FogsOk n.links.length l ∧ 0 < n.links.length
noncomputable instance (n : NetP) (l : List FogD) : Decidable (AskB n l) := Classical.propDecidable _
noncomputable def fgtOut (n : NetP) (l : List FogD) : Int × Int × Bool := if AskB n l then ((bestTo l n.links.length).1, (bestTo l n.links.length).2, true) else (0, 0, false)
/-- the sums link by link -/
def Sums (n : Nat) (l : List FogD) (S : List Int) : Prop := S.length = n ∧ ∀ j : Nat, j < n → S[j]? = some (fgSec l (j : Int) 0 10000)
theorem sums_start (n : Nat) : Sums n [] (List.replicate n 0) := ⟨by simp, fun j hj => by rw [List.getElem?_replicate, if_pos hj]; rfl⟩
theorem sums_step {m n k : Nat} {l : List FogD} {S : List Int} {x : FogD} {v : Int} (hm : m = n) (hf : FogsOk m l) (h : Sums n (l.take k) S) (hx : l[k]? = some x) (hv : S[x.link.toNat]? = some v) : Sums n (l.take (k + 1)) (S.set x.link.toNat (v + (x.til - x.fr))) := by
  obtain ⟨h1, h2⟩ := h
  have hxo := hf.at hx
  obtain ⟨⟨l0, l1⟩, f0, f1, f2⟩ := hxo
  refine ⟨by simp [h1], fun j hj => ?_⟩
  rw [snoc_get hx, fgSec_snoc, List.getElem?_set]
  have hov : ov x 0 10000 = x.til - x.fr := by
    rw [ov_in (by omega) (by omega) f1 (by omega)]
    split <;> split <;> omega
  by_cases c : x.link.toNat = j
  · have hj2 := h2 j hj
    rw [c] at hv
    rw [hv] at hj2
    have := Option.some.inj hj2
    rw [if_pos c, if_pos (by omega : x.link = (j : Int)), if_pos (by omega), this, hov]
  · rw [if_neg c, if_neg (by omega : ¬ x.link = (j : Int))]; exact h2 j hj
theorem sums_get {n : Nat} {l : List FogD} {S : List Int} (h : Sums n l S) {j : Nat} (hj : j < n) : S.getD j 0 = fgSec l (j : Int) 0 10000 := getD_at (h.2 j hj)
theorem sums_best {n : Nat} {l : List FogD} {S : List Int} (h : Sums n l S) (hn : 0 < n) : mxTo S S.length = (bestTo l n).2 ∧ firstF (fun x : Int => decide ((bestTo l n).2 = x)) S 0 = (bestTo l n).1 := by
  obtain ⟨b, h1, h2, h3, h4, h5⟩ := best_facts l n hn
  obtain ⟨m1, i, m2, m3⟩ := mx_facts S S.length (by rw [h.1]; exact hn)
  have hm : mxTo S S.length = (bestTo l n).2 := by
    have hi : i < n := by rw [← h.1]; exact m2
    have a1 := m1 b (by rw [h.1]; exact h2)
    rw [sums_get h h2] at a1
    rw [sums_get h hi] at m3
    have a2 := h4 i hi
    omega
  refine ⟨hm, ?_⟩
  rw [h1]
  have := firstF_at (p := fun x : Int => decide ((bestTo l n).2 = x)) (l := S) (b := b) (i := 0) (Nat.zero_le _) (fun j x _ hj hx => ?_) ⟨_, h.2 b h2, by rw [h3]; simp⟩
  · rw [List.drop_zero] at this; exact this
  · have := h.2 j (by omega)
    rw [hx] at this
    obtain rfl := Option.some.inj this
    have := h5 j hj
    simp only [decide_eq_false_iff_not]; omega
/-- the first clear run -/
theorem run_at {m : Nat} {l : List FogD} (h : FogsOk m l) (link t s : Int) (hs : 1 ≤ s) : ∀ k, k ≤ l.length →
    (∀ j y, j < k → l[j]? = some y → y.link = link → y.til ≤ stF (l.take k) link t s ∨ stF (l.take k) link t s + s ≤ y.fr) ∧ (stF (l.take k) link t s = t ∨ ∃ z ∈ l, z.link = link ∧ stF (l.take k) link t s = z.til) := by
  intro k
  induction k with
  | zero => intro _; exact ⟨fun j y hj => absurd hj (Nat.not_lt_zero _), .inl (by simp [stF])⟩
  | succ k ih =>
    intro hk
    obtain ⟨h1, h2⟩ := ih (by omega)
    have hx := List.getElem?_eq_getElem (show k < l.length by omega)
    generalize l[k] = x at hx
    have hxo := h.at hx
    rw [snoc_get hx, stF_snoc]
    generalize stF (l.take k) link t s = u at *
    by_cases c : x.link = link ∧ x.til > u ∧ x.fr < u + s
    · rw [if_pos c]
      refine ⟨fun j y hj hy hl => ?_, .inr ⟨x, List.mem_of_getElem? hx, c.1, rfl⟩⟩
      by_cases e : j = k
      · subst e; rw [hx] at hy; obtain rfl := Option.some.inj hy; exact .inl (Int.le_refl _)
      · have := h1 j y (by omega) hy hl
        have hlt := (h.lt hy hx (by omega)).2 (by omega)
        have hyo := h.at hy
        omega
    · rw [if_neg c]
      refine ⟨fun j y hj hy hl => ?_, h2⟩
      by_cases e : j = k
      · subst e; rw [hx] at hy; obtain rfl := Option.some.inj hy; omega
      · exact h1 j y (by omega) hy hl
theorem sec_none {l : List FogD} {link a b : Int} (h : ∀ y ∈ l, y.link = link → y.til ≤ a ∨ b ≤ y.fr) : fgSec l link a b = 0 := by
  have : ∀ k, fgSec (l.take k) link a b = 0 := by
    intro k
    induction k with
    | zero => simp [fgSec]
    | succ k ih =>
      by_cases hk : k < l.length
      · have hx := List.getElem?_eq_getElem hk
        rw [snoc_get hx, fgSec_snoc, ih]
        by_cases c : l[k].link = link
        · rw [if_pos c, ov_zero (h _ (List.getElem_mem hk) c)]; rfl
        · rw [if_neg c]
      · rw [List.take_of_length_le (by omega)]; rw [List.take_of_length_le (by omega)] at ih; exact ih
  have := this l.length
  rwa [List.take_length] at this
theorem sec_mem {l : List FogD} {link a b : Int} (hab : a ≤ b) {x : FogD} (hx : x ∈ l) (hl : x.link = link) : ov x a b ≤ fgSec l link a b := by
  obtain ⟨i, hi, e⟩ := List.getElem_of_mem hx
  have : ∀ k, 0 ≤ fgSec (l.take k) link a b ∧ (i < k → ov x a b ≤ fgSec (l.take k) link a b) := by
    intro k
    induction k with
    | zero => exact ⟨by simp [fgSec], fun h => absurd h (Nat.not_lt_zero _)⟩
    | succ k ih =>
      by_cases hk : k < l.length
      · have hy := List.getElem?_eq_getElem hk
        have hb := ov_bd (x := l[k]) hab
        rw [snoc_get hy, fgSec_snoc]
        by_cases c : l[k].link = link
        · rw [if_pos c]
          refine ⟨by omega, fun h => ?_⟩
          by_cases e2 : i = k
          · subst e2; rw [e]; rw [e] at hb; omega
          · have := ih.2 (by omega); omega
        · rw [if_neg c]
          refine ⟨ih.1, fun h => ?_⟩
          by_cases e2 : i = k
          · subst e2; rw [e] at c; exact absurd hl c
          · exact ih.2 (by omega)
      · rw [List.take_of_length_le (by omega)]; rw [List.take_of_length_le (by omega)] at ih; exact ⟨ih.1, fun h => ih.2 (by omega)⟩
  have := (this l.length).2 hi
  rwa [List.take_length] at this
theorem es_facts {n : NetP} {l : List FogD} {link t s : Int} (h : (esOut n l link t s).2 = true) : ¬ (esOut n l link t s).1 < t ∧ 0 ≤ t ∧ (esOut n l link t s).1 ≤ 10000 ∧ 1 ≤ s ∧ s ≤ 1000 ∧
    ((esOut n l link t s).1 + s ≤ 10000 → fsOut n l link (esOut n l link t s).1 ((esOut n l link t s).1 + s) = (0, true) ∧
      ((esOut n l link t s).1 > t → (fsOut n l link ((esOut n l link t s).1 - 1) ((esOut n l link t s).1 - 1 + s)).2 = true ∧ ¬ (fsOut n l link ((esOut n l link t s).1 - 1) ((esOut n l link t s).1 - 1 + s)).1 = 0)) := by
  by_cases c : AskF n l link t t ∧ (1 ≤ s ∧ s ≤ 1000)
  · rw [esOut, if_pos c]
    simp only
    obtain ⟨ha, hs0, hs1⟩ := c
    have hb := stF_bd ha.hf link t s l.length
    have hr := run_at ha.hf link t s hs0 l.length (Nat.le_refl _)
    rw [List.take_length] at hb hr
    have ht0 := ha.ha
    have ht1 := ha.hb
    obtain ⟨h1, h2⟩ := hr
    generalize stF l link t s = u at *
    refine ⟨by omega, ht0, by omega, hs0, hs1, fun hu => ⟨?_, fun hgt => ?_⟩⟩
    · rw [fsOut, if_pos ⟨ha.hn, ha.hf, ha.hk, by omega, by omega, hu⟩, sec_none]
      intro y hy hl
      obtain ⟨j, hj, e⟩ := List.getElem_of_mem hy
      exact h1 j y hj (by rw [List.getElem?_eq_getElem hj, e]) hl
    · have hA : AskF n l link (u - 1) (u - 1 + s) := ⟨ha.hn, ha.hf, ha.hk, by omega, by omega, by omega⟩
      rw [fsOut, if_pos hA]
      refine ⟨rfl, ?_⟩
      rcases h2 with h2 | ⟨z, hz, hl, h2⟩
      · omega
      · have hm := sec_mem (a := u - 1) (b := u - 1 + s) (by omega) hz hl
        obtain ⟨j, hj, e⟩ := List.getElem_of_mem hz
        have hzo := ha.hf.at (show l[j]? = some z by rw [List.getElem?_eq_getElem hj, e])
        have : 1 ≤ ov z (u - 1) (u - 1 + s) := by
          rw [ov_in (by omega) (by omega) hzo.2.2.1 (by omega)]
          split <;> split <;> omega
        simp only; omega
  · rw [esOut, if_neg c] at h; cases h
theorem jn_flag (n : NetP) (l : List FogD) (t : Int) : (jnOut n l t).2 = (flOut n l t).2 := by
  by_cases c : AskT n l t
  · rw [jnOut, flOut, if_pos c, if_pos c]
  · rw [jnOut, flOut, if_neg c, if_neg c]
theorem reach_iff (n : NetP) (p : Nat → Bool) : (reachL n p 0).length = n.towers.length ↔ ∀ i : Nat, i < n.towers.length → Rc (selTo p n.links n.links.length) 0 (i : Int) := by
 rw [reachL, idx_full]
 exact ⟨fun h i hi => rcB_true.1 (h i hi), fun h i hi => rcB_true.2 (h i hi)⟩
theorem fl_facts {n : NetP} {l : List FogD} {t : Int} (h : (flOut n l t).2 = true) : (ijOut n).2 = true ∧ ((jnOut n l t).1 = true → (ijOut n).1 = true) ∧ (((flOut n l t).1.length : Int) = 0 → (ijOut n).1 = (jnOut n l t).1) ∧
    ∀ k : Nat, k < n.links.length → (clOut n l (k : Int) t).2 = true ∧ (clOut n l (k : Int) t).1 = !(decide ((k : Int) ∈ (flOut n l t).1)) := by
  by_cases c : AskT n l t
  · rw [flOut, if_pos c, jnOut, if_pos c, ijOut, if_pos c.1]
    simp only
    refine ⟨trivial, fun hj => ?_, fun hf => ?_, fun k hk => ?_⟩
    · rw [decide_eq_true_eq, reach_iff] at hj ⊢
      intro i hi
      exact (hj i hi).sub fun x hx => by
        obtain ⟨j, h1, h2, h3⟩ := mem_sel.1 hx
        exact mem_sel.2 ⟨j, h1, h2, rfl⟩
    · have hcl : ∀ i, i < n.links.length → clF l (i : Int) t = true := fun i hi => by
        cases e : clF l (i : Int) t with
        | true => rfl
        | false =>
          have : (i : Int) ∈ idxTo (fun k => !clF l (k : Int) t) n.links.length := mem_idx.2 ⟨i, hi, by simp [e], rfl⟩
          have hn : idxTo (fun k => !clF l (k : Int) t) n.links.length = [] := List.eq_nil_of_length_eq_zero (by omega)
          rw [hn] at this; simp at this
      rw [decide_eq_decide, reach_iff, reach_iff]
      constructor
      · intro q i hi
        exact (q i hi).sub fun x hx => by
          obtain ⟨j, h1, h2, h3⟩ := mem_sel.1 hx
          exact mem_sel.2 ⟨j, h1, h2, hcl j h1⟩
      · intro q i hi
        exact (q i hi).sub fun x hx => by
          obtain ⟨j, h1, h2, h3⟩ := mem_sel.1 hx
          exact mem_sel.2 ⟨j, h1, h2, rfl⟩
    · have hA : AskF n l (k : Int) t t := ⟨c.1, c.2.1, by omega, c.2.2.1, Int.le_refl _, c.2.2.2⟩
      rw [clOut, if_pos hA]
      refine ⟨rfl, ?_⟩
      simp only
      have : ((k : Int) ∈ idxTo (fun k => !clF l (k : Int) t) n.links.length) ↔ ¬ clF l (k : Int) t = true := by
        rw [mem_idx]
        constructor
        · rintro ⟨i, h1, h2, h3⟩
          have : i = k := by omega
          subst this
          simpa using h2
        · intro q; exact ⟨k, hk, by simpa using q, rfl⟩
      cases e : clF l (k : Int) t with
      | true => rw [e] at this; rw [decide_eq_false (by rw [this]; simp)]; rfl
      | false => rw [e] at this; rw [decide_eq_true (by rw [this]; simp)]; rfl
  · rw [flOut, if_neg c] at h; cases h
theorem fgt_facts {n : NetP} {l : List FogD} (h : (fgtOut n l).2.2 = true) : ∀ k : Nat, k < n.links.length → (fsOut n l (k : Int) 0 10000).2 = true ∧ ¬ (fsOut n l (k : Int) 0 10000).1 > (fgtOut n l).2.1 ∧ ((fsOut n l (k : Int) 0 10000).1 = (fgtOut n l).2.1 → ¬ (k : Int) < (fgtOut n l).1) := by
  by_cases c : AskB n l
  · rw [fgtOut, if_pos c]
    simp only
    intro k hk
    obtain ⟨c1, c2, c3⟩ := c
    obtain ⟨b, h1, h2, h3, h4, h5⟩ := best_facts l n.links.length c3
    rw [fsOut, if_pos ⟨c1, c2, by omega, by omega, by omega, by omega⟩]
    simp only
    refine ⟨trivial, by have := h4 k hk; omega, fun e hlt => ?_⟩
    rw [h1] at hlt
    have := h5 k (by omega)
    omega
  · rw [fgtOut, if_neg c] at h; cases h
end Go.Proofs.Ytloicopmcagikaa


/- The foggiest link. Condition: none. Printed in part by a program. -/
namespace Go.Proofs.Ytloicopmcagikaa
open Go.Vc
set_option linter.all false
theorem slices_Max_Lint_int_ok (v_l : Value) (l : List Int) (h : Heap) (s_l : Sl h v_l l) (h0 : 0 < l.length) : Cn f_slices_Max_Lint_int [v_l] h fun v h' => v = .int .i64 (mxTo l l.length) ∧ Ext h h' := by
 have l63_l := s_l.len63
 refine calls_of r_slices_Max_Lint_int ?_
 refine v_seq <| v_ops <| s_pq (.int .i64 0) <| s_nil <| p_seqN <| v_seq <| v_seq <| v_ops <| s_pq v_l <| s_pure (.int .i64 (l.length : Int)) (fun _ q => s_l.lenVC q) <| s_pq (.bool (decide ((l.length : Int) < 1))) <| s_nil <| p_seqN <| v_condN rfl (by first | assumption | omega | (simp; done) | (simp; omega) | simp_all) <| v_skip <| p_seqN <| v_seq <| v_ops <| s_pq v_l ?_
 have hk1 : 0 < l.length := (by first | omega | (simp; omega))
 obtain ⟨x2, hx2⟩ : ∃ x, l[0]? = some x := ⟨_, List.getElem?_eq_getElem hk1⟩
 refine s_pure (.pointer (some ⟨sblk v_l, soff v_l + 0 * 1, none⟩)) (fun _ q => s_l.idx (k := 0) rfl hk1 q) <| s_load (.int .i64 x2) (fun _ q => s_l.load1 hx2 rfl q) <| s_pq (.int .i64 x2) <| s_nil <| p_seqN <| v_seq <| v_seq <| v_ops <| s_pq (.int .i64 1) <| s_nil <| p_seqN <| v_block <| v_loop2 (α := Nat) (β := Int) (fun k m => [(0, v_l), (3, .int .i64 m), (4, .int .i64 (k : Int))]) (fun k m hh => Ext h hh ∧ 1 ≤ k ∧ k ≤ l.length ∧ m = mxTo l k) (fun k m => l.length - k) 1 x2 ⟨rfl, rfl, rfl⟩ ⟨(Ext.refl h), (by exact ⟨by omega, by omega, (mx_one (by assumption)).symm⟩)⟩ ?_
 rintro k m R4 h3 ⟨Eh, ⟨hk0, hk, hm⟩⟩
 have zEh := Eh.size
 have f6 := s_l.ext Eh
 refine v_seq <| v_seq <| v_ops <| s_pq (.int .i64 (k : Int)) <| s_pq v_l <| s_pure (.int .i64 (l.length : Int)) (fun _ q => f6.lenVC q) <| s_pq (.bool (decide ((k : Int) < (l.length : Int)))) <| s_nil <| p_seqN ?_
 refine v_cond rfl (fun c7 => ?_) (fun c7 => ?_)
 ·
  refine v_skip <| p_seqN <| v_seq <| v_block <| v_ops <| s_pq (.int .i64 m) <| s_pq v_l <| s_pq (.int .i64 (k : Int)) ?_
  have hk8 : k < l.length := (by first | omega | (simp; omega))
  obtain ⟨x9, hx9⟩ : ∃ x, l[k]? = some x := ⟨_, List.getElem?_eq_getElem hk8⟩
  refine s_pure (.pointer (some ⟨sblk v_l, soff v_l + k * 1, none⟩)) (fun _ q => f6.idx (k := k) rfl hk8 q) <| s_load (.int .i64 x9) (fun _ q => f6.load1 hx9 rfl q) <| s_pq (.int .i64 (if x9 > m then x9 else m)) <| s_pq (.int .i64 (if x9 > m then x9 else m)) <| s_nil <| p_blkN <| p_seqN <| v_ops <| s_pq (.int .i64 (k : Int)) <| s_pure (.int .i64 ((k : Int) + 1)) (fun _ q => ArithVC.mk (by omega) q) <| s_pq (.int .i64 ((k : Int) + 1)) <| s_nil ?_
  exact p_lpN ⟨k + 1, (if x9 > m then x9 else m), ⟨rfl, rfl, rfl⟩, ⟨Eh, (by exact ⟨by omega, by omega, by rw [mx_step hk0 (by assumption), ← hm]⟩)⟩, by omega⟩
 refine v_exit <| p_seqX <| p_lpX <| p_blkX <| p_seqN <| v_seq <| v_ops <| s_pq (.int .i64 m) <| s_pq (.int .i64 m) <| s_nil <| p_seqN <| v_ret <| p_ret [.int .i64 m] (.int .i64 m) (fun _ q => q) rfl ?_
 have ho : (mxTo l l.length) = m := by rw [hm, show k = l.length by omega]
 exact ⟨by first | (rw [ho]; done) | rfl, Eh⟩

theorem slices_Index_Lint_int_ok (v_l : Value) (l : List Int) (a : Int) (h : Heap) (s_l : Sl h v_l l) : Cn f_slices_Index_Lint_int [v_l, .int .i64 a] h fun v h' => v = .int .i64 (firstF (fun x : Int => decide (a = x)) l 0) ∧ Ext h h' := by
 have l63_l := s_l.len63
 refine calls_of r_slices_Index_Lint_int ?_
 refine v_seq <| v_ops <| s_pq (.int .i64 0) <| s_nil <| p_seqN <| v_seq <| v_seq <| v_ops <| s_pq v_l <| s_pure (.int .i64 (l.length : Int)) (fun _ q => s_l.lenVC q) <| s_pq (.int .i64 0) <| s_nil <| p_seqN <| v_block <| v_loop1 (α := Nat) (fun k => [(0, v_l), (1, .int .i64 a), (7, .int .i64 (l.length : Int)), (8, .int .i64 (k : Int))]) (fun k hh => Ext h hh ∧ k ≤ l.length ∧ firstF (fun x : Int => decide (a = x)) l 0 = firstF (fun x : Int => decide (a = x)) (l.drop k) k) (fun k => l.length - k) 0 ⟨rfl, rfl, rfl, rfl⟩ ⟨(Ext.refl h), (by simp)⟩ ?_
 rintro k R2 h1 ⟨Eh, ⟨hk, hF⟩⟩
 have zEh := Eh.size
 have f4 := s_l.ext Eh
 refine v_seq <| v_ops <| s_pq (.bool (decide ((k : Int) < (l.length : Int)))) <| s_nil <| p_seqN <| v_seq ?_
 refine v_cond rfl (fun c5 => ?_) (fun c5 => ?_)
 ·
  refine v_skip <| p_seqN <| v_seq <| v_block <| v_seq <| v_ops <| s_pq (.int .i64 (k : Int)) <| s_pq (.int .i64 (k : Int)) <| s_nil <| p_seqN <| v_seq <| v_ops <| s_pq (.int .i64 a) <| s_pq v_l <| s_pq (.int .i64 (k : Int)) ?_
  have hk6 : k < l.length := (by first | omega | (simp; omega))
  obtain ⟨x7, hx7⟩ : ∃ x, l[k]? = some x := ⟨_, List.getElem?_eq_getElem hk6⟩
  refine s_pure (.pointer (some ⟨sblk v_l, soff v_l + k * 1, none⟩)) (fun _ q => f4.idx (k := k) rfl hk6 q) <| s_load (.int .i64 x7) (fun _ q => f4.load1 hx7 rfl q) <| s_pq (.bool (a == x7)) <| s_nil <| p_seqN ?_
  refine v_cond rfl (fun c8 => ?_) (fun c8 => ?_)
  ·
   refine v_seq <| v_ops <| s_pq (.int .i64 (k : Int)) <| s_pq (.int .i64 (k : Int)) <| s_nil <| p_seqN <| v_ret <| p_blkR <| p_seqR <| p_lpR <| p_blkR <| p_seqR <| p_ret [.int .i64 (k : Int)] (.int .i64 (k : Int)) (fun _ q => q) rfl ?_
   have ho : (firstF (fun x : Int => decide (a = x)) l 0) = (k : Int) := by first | (rw [hF, drop_at (by assumption), firstF, decide_eq_true (by assumption)]; rfl) | (rw [hF, List.drop_of_length_le (by omega), firstF])
   exact ⟨by first | (rw [ho]; done) | rfl, Eh⟩
  refine v_skip <| p_blkN <| p_seqN <| v_ops <| s_pure (.int .i64 ((k : Int) + 1)) (fun _ q => ArithVC.mk (by omega) q) <| s_pq (.int .i64 ((k : Int) + 1)) <| s_nil ?_
  exact p_lpN ⟨k + 1, ⟨rfl, rfl, rfl, rfl⟩, ⟨Eh, (by exact ⟨by omega, by rw [hF, drop_at (by assumption), firstF, decide_eq_false (by assumption)]; rfl⟩)⟩, by omega⟩
 refine v_exit <| p_seqX <| p_lpX <| p_blkX <| p_seqN <| v_seq <| v_ops <| s_pq (.int .i64 (-1)) <| s_nil <| p_seqN <| v_ret <| p_ret [.int .i64 (-1)] (.int .i64 (-1)) (fun _ q => q) rfl ?_
 have ho : (firstF (fun x : Int => decide (a = x)) l 0) = (-1) := by first | (rw [hF, drop_at (by assumption), firstF, decide_eq_true (by assumption)]; rfl) | (rw [hF, List.drop_of_length_le (by omega), firstF])
 exact ⟨by first | (rw [ho]; done) | rfl, Eh⟩


theorem sums_val {n k : Nat} {l : List FogD} {S : List Int} (h : Sums n (l.take k) S) {j x : Int} (h0 : 0 ≤ j) (h1 : j ≤ (n : Int) - 1) (hx : S[j.toNat]? = some x) (hk : k ≤ 60) : 0 ≤ x ∧ x ≤ 600000 := by
 have := h.2 j.toNat (by omega)
 rw [hx] at this
 have e := Option.some.inj this
 have hb := fgSec_bd l ((j.toNat : Nat) : Int) (a := 0) (b := 10000) (by omega) (by omega) k
 omega

set_option maxRecDepth 10000 in
set_option maxHeartbeats 4000000 in
theorem impl_FoggiestLink_ok (n : NetP) (v_n_towers : Value) (v_n_links : Value) (v_l : Value) (l : List FogD) (h : Heap) (s_n_towers : Sl h v_n_towers n.towers) (s_n_links : Sl h v_n_links n.links) (s_l : Sl h v_l l) : Cn f_impl_FoggiestLink [.agg #[v_n_towers, v_n_links], v_l] h fun v h' => v = .tuple #[.int .i64 ((fgtOut n l).1), .int .i64 ((fgtOut n l).2.1), .bool ((fgtOut n l).2.2)] ∧ Ext h h' := by
 have l63_n_towers := s_n_towers.len63
 have l63_n_links := s_n_links.len63
 have l63_l := s_l.len63
 refine calls_of r_impl_FoggiestLink ?_
 refine v_seq <| v_ops ?_
 refine s_box [v_n_towers, v_n_links] rfl (fun h2 b1 hbb1 hzb1 eh2 bxb1 => ?_)
 have E3 := (Ext.refl h).trans eh2
 have z4 := eh2.size
 have lbb1 := bxb1.lt
 refine s_pq (.int .i64 0) <| s_pq (.int .i64 0) <| s_pq (.bool false) <| s_nil <| p_seqN <| v_seq <| v_seq <| v_ops <| s_load (.agg #[v_n_towers, v_n_links]) (fun _ q => bxb1.loadA rfl q) ?_
 have f5 := (s_n_towers.ext eh2)
 have f6 := (s_n_links.ext eh2)
 refine s_call [.agg #[v_n_towers, v_n_links]] rfl (impl_IsNet_ok n v_n_towers v_n_links _ f5 f6) ?_
 rintro _ h7 ⟨rfl, eh7⟩
 have E8 := E3.trans eh7
 have z9 := eh7.size
 refine s_pq (.bool (!decide (NetOk n))) <| s_pq (.bool (!decide (NetOk n))) ?_
 refine s_splitT rfl (fun c10 => ?_) (fun c10 => ?_)
 ·
  refine s_pass rfl <| s_pass rfl <| s_pass rfl <| s_pass rfl <| s_pq (.bool true) <| s_pq (.bool true) <| s_splitY rfl rfl <| s_pass rfl <| s_pass rfl <| s_pass rfl <| s_pass rfl <| s_pq (.bool true) <| s_nil <| p_seqN <| v_condY rfl rfl <| v_seq <| v_ops <| s_pq (.int .i64 0) <| s_pq (.int .i64 0) <| s_pq (.bool false) <| s_nil <| p_seqN <| v_ret <| p_seqR <| p_ret [.int .i64 0, .int .i64 0, .bool false] (.tuple #[.int .i64 0, .int .i64 0, .bool false]) (fun _ q => q) rfl ?_
  have ho : (fgtOut n l) = (0, 0, false) := by first | exact if_neg (by rintro ⟨q1, q2, q3⟩; first | contradiction | omega) | (rw [take_all (by assumption)] at hS; (have q_ := sums_best hS (by omega)); rw [fgtOut, if_pos ⟨by assumption, by assumption, by omega⟩, q_.1, q_.2])
  exact ⟨by first | (rw [ho]; done) | rfl, E8⟩
 have c10 := Classical.not_not.1 c10
 refine s_run rfl ?_
 have f11 := (bxb1.ext eh7)
 refine s_load (.agg #[v_n_towers, v_n_links]) (fun _ q => f11.loadA rfl q) <| s_run rfl <| s_pq v_l <| s_run rfl ?_
 have f12 := (f5.ext eh7)
 have f13 := (f6.ext eh7)
 have f14 := ((s_l.ext eh2).ext eh7)
 refine s_call [.agg #[v_n_towers, v_n_links], v_l] rfl (impl_areFogs_ok n v_n_towers v_n_links v_l l _ f12 f13 f14) ?_
 rintro _ h15 ⟨rfl, eh15⟩
 have E16 := E8.trans eh15
 have z17 := eh15.size
 refine s_run rfl <| s_pq (.bool (!(decide (FogsOk n.links.length l)))) <| s_pq (.bool (!(decide (FogsOk n.links.length l)))) <| s_pq (.bool (!(decide (FogsOk n.links.length l)))) ?_
 refine s_splitT rfl (fun c18 => ?_) (fun c18 => ?_)
 ·
  refine s_pass rfl <| s_pass rfl <| s_pass rfl <| s_pass rfl <| s_pq (.bool true) <| s_nil <| p_seqN <| v_condY rfl rfl <| v_seq <| v_ops <| s_pq (.int .i64 0) <| s_pq (.int .i64 0) <| s_pq (.bool false) <| s_nil <| p_seqN <| v_ret <| p_seqR <| p_ret [.int .i64 0, .int .i64 0, .bool false] (.tuple #[.int .i64 0, .int .i64 0, .bool false]) (fun _ q => q) rfl ?_
  have ho : (fgtOut n l) = (0, 0, false) := by first | exact if_neg (by rintro ⟨q1, q2, q3⟩; first | contradiction | omega) | (rw [take_all (by assumption)] at hS; (have q_ := sums_best hS (by omega)); rw [fgtOut, if_pos ⟨by assumption, by assumption, by omega⟩, q_.1, q_.2])
  exact ⟨by first | (rw [ho]; done) | rfl, E16⟩
 have c18 := Classical.not_not.1 c18
 refine s_run rfl <| s_pq (.pointer (some ⟨b1, 1, none⟩)) <| s_run rfl ?_
 have f19 := (f11.ext eh15)
 refine s_load v_n_links (fun _ q => f19.load rfl q) <| s_run rfl <| s_pure (.int .i64 (n.links.length : Int)) (fun _ q => f13.lenVC q) <| s_run rfl <| s_pq (.bool ((n.links.length : Int) == 0)) <| s_pq (.bool ((n.links.length : Int) == 0)) <| s_nil <| p_seqN ?_
 refine v_cond rfl (fun c20 => ?_) (fun c20 => ?_)
 ·
  refine v_seq <| v_ops <| s_pq (.int .i64 0) <| s_pq (.int .i64 0) <| s_pq (.bool false) <| s_nil <| p_seqN <| v_ret <| p_seqR <| p_ret [.int .i64 0, .int .i64 0, .bool false] (.tuple #[.int .i64 0, .int .i64 0, .bool false]) (fun _ q => q) rfl ?_
  have ho : (fgtOut n l) = (0, 0, false) := by first | exact if_neg (by rintro ⟨q1, q2, q3⟩; first | contradiction | omega) | (rw [take_all (by assumption)] at hS; (have q_ := sums_best hS (by omega)); rw [fgtOut, if_pos ⟨by assumption, by assumption, by omega⟩, q_.1, q_.2])
  exact ⟨by first | (rw [ho]; done) | rfl, E16⟩
 refine v_skip <| p_seqN <| v_seq <| v_ops <| s_pq (.pointer (some ⟨b1, 1, none⟩)) <| s_load v_n_links (fun _ q => f19.load rfl q) <| s_pure (.int .i64 (n.links.length : Int)) (fun _ q => f13.lenVC q) ?_
 refine s_mk (α := Int) n.links.length 0 rfl rfl rfl rfl rfl rfl (by (have q_ := (by assumption : NetOk n).l2); simp [maxLen]; omega) (by (have q_ := (by assumption : NetOk n).l2); omega) (fun r21 h22 eh22 zh22 s_r21 fr_r21 => ?_)
 have E23 := E16.trans eh22
 have z24 := eh22.size
 refine s_pq r21 <| s_nil <| p_seqN <| v_seq <| v_seq <| v_ops <| s_pq v_l <| s_pure (.int .i64 (l.length : Int)) (fun _ q => f14.lenVC q) <| s_pq (.int .i64 0) <| s_nil <| p_seqN <| v_block <| v_loop3 (α := Nat) (β := List Int) (γ := Value) (fun k sm y => [(7, y), (30, v_l), (31, .int .i64 (l.length : Int)), (32, .int .i64 (k : Int))]) (fun k sm y hh => Ext h hh ∧ SlO hh y sm ∧ Fr h.size y ∧ k ≤ l.length ∧ Sums n.links.length (l.take k) sm) (fun k sm y => l.length - k) 0 (List.replicate n.links.length 0) r21 ⟨rfl, rfl, rfl, rfl⟩ ⟨E23, (sl_eq s_r21 (by simp)), (fr_r21.mono (by omega)), (by exact ⟨by omega, sums_start _⟩)⟩ ?_
 rintro k sm y R26 h25 ⟨Eh, s_y, fr_y, ⟨hk, hS⟩⟩
 have zEh := Eh.size
 have f30 := s_l.ext Eh
 have lt_y := s_y.lt
 have hsl := hS.1
 have h40 := (by assumption : NetOk n).l2
 have h60 := (by assumption : FogsOk n.links.length l).1
 have hxo_ := fun x (hx : l[k]? = some x) => (by assumption : FogsOk n.links.length l).at hx
 have hvb_ := fun (z : FogD) (hz : l[k]? = some z) (v : Int) (hv : sm[z.link.toNat]? = some v) => sums_val hS (hxo_ z hz).1.1 (hxo_ z hz).1.2 hv (by omega)
 refine v_seq <| v_ops <| s_pq (.bool (decide ((k : Int) < (l.length : Int)))) <| s_nil <| p_seqN <| v_seq ?_
 refine v_cond rfl (fun c31 => ?_) (fun c31 => ?_)
 ·
  refine v_skip <| p_seqN <| v_seq <| v_block <| v_seq <| v_ops ?_
  have hk32 : k < l.length := (by first | omega | (simp; omega))
  obtain ⟨x33, hx33⟩ : ∃ x, l[k]? = some x := ⟨_, List.getElem?_eq_getElem hk32⟩
  refine s_pure (.pointer (some ⟨sblk v_l, soff v_l + k * 3, none⟩)) (fun _ q => f30.idx (k := k) rfl hk32 q) <| s_load (.agg #[.int .i64 x33.link, .int .i64 x33.fr, .int .i64 x33.til]) (fun _ q => f30.loadN hx33 rfl q) ?_
  refine s_new (fun h35 b34 hbb34 hzb34 eh35 bxb34 => ?_)
  have E36 := Eh.trans eh35
  have z37 := eh35.size
  have lbb34 := bxb34.lt
  refine s_stBx (.agg #[.int .i64 x33.link, .int .i64 x33.fr, .int .i64 x33.til]) [.int .i64 x33.link, .int .i64 x33.fr, .int .i64 x33.til] [.int .i64 x33.link, .int .i64 x33.fr, .int .i64 x33.til] bxb34 rfl rfl rfl rfl (by simp) (all_cons rfl (all_cons rfl (all_cons rfl all_nil))) rfl (fun h38 mh38 sh38 bxx39 => ?_)
  have E40 := E36.mod mh38 (fun b hb => by simp at hb; omega)
  refine s_nil <| p_seqN <| v_drawF <| d_pq y <| d_pq (.pointer (some ⟨b34, 0, none⟩)) <| d_pq (.pointer (some ⟨b34, 2, none⟩)) <| d_pq (.pointer (some ⟨b34, 1, none⟩)) <| d_loadO (.int .i64 x33.link) (fun _ q => bxx39.load rfl q) ?_
  have f41 := ((s_y.ext eh35).mod mh38 (fun b hb hc => by simp at hc; have := lt_y b hb; omega))
  have hk42 : (x33.link).toNat < sm.length := (by have q_ := hxo_ _ (by assumption); unfold FogOk at q_; omega)
  obtain ⟨x43, hx43⟩ : ∃ x, sm[(x33.link).toNat]? = some x := ⟨_, List.getElem?_eq_getElem hk42⟩
  refine d_pureT (.pointer (some ⟨sblk y, soff y + ((x33.link).toNat) * 1, none⟩)) (fun _ q => f41.idx (k := (x33.link).toNat) (by have q_ := hxo_ _ (by assumption); unfold FogOk at q_; omega) hk42 q) <| d_loadO (.int .i64 x43) (fun _ q => f41.load1 hx43 rfl q) <| d_loadO (.int .i64 x33.til) (fun _ q => bxx39.load rfl q) <| d_loadO (.int .i64 x33.fr) (fun _ q => bxx39.load rfl q) <| d_pureT (.int .i64 (x33.til - x33.fr)) (fun _ q => ArithVC.mk (by have q_ := hxo_ _ (by assumption); unfold FogOk at q_; omega) q) ?_
  refine d_pureT (.int .i64 (x43 + (x33.til - x33.fr))) (fun _ q => ArithVC.mk (by have q_ := hxo_ _ (by assumption); unfold FogOk at q_; have r_ := hvb_ _ (by assumption) _ (by assumption); omega) q) <| d_pureT (.pointer (some ⟨sblk y, soff y + ((x33.link).toNat) * 1, none⟩)) (fun _ q => f41.idx (k := (x33.link).toNat) (by have q_ := hxo_ _ (by assumption); unfold FogOk at q_; omega) hk42 q) <| d_eff ?_
  refine s_stSl (k := (x33.link).toNat) (j := 0) (x43 + (x33.til - x33.fr)) (.int .i64 (x43 + (x33.til - x33.fr))) [.int .i64 (x43 + (x33.til - x33.fr))] f41 rfl rfl rfl rfl rfl hx43 (Nat.le_of_ble_eq_true rfl) rfl (all_cons rfl all_nil) (fun h44 mh44 sh44 s45 => ?_)
  have E46 := E40.mod mh44 (fun b hb => by have := fr_y b hb; omega)
  refine s_nil ⟨fun hl => (by cases hl), ?_⟩
  refine d_done <| p_blkN <| p_seqN <| v_ops <| s_pure (.int .i64 ((k : Int) + 1)) (fun _ q => ArithVC.mk (by omega) q) <| s_pq (.int .i64 ((k : Int) + 1)) <| s_nil ?_
  exact p_lpN ⟨k + 1, (sm.set ((x33.link).toNat) (x43 + (x33.til - x33.fr))), y, ⟨rfl, rfl, rfl, rfl⟩, ⟨E46, (sl_eq s45 (by simp)), (fr_y.mono (by omega)), (by exact ⟨by omega, sums_step rfl (by assumption : FogsOk n.links.length l) hS (by assumption) (by assumption)⟩)⟩, by omega⟩
 refine v_exit <| p_seqX <| p_lpX <| p_blkX <| p_seqN <| v_seq <| v_ops <| s_pq y <| s_call [y] rfl (slices_Max_Lint_int_ok y sm _ s_y.toSl (by omega)) ?_
 rintro _ h47 ⟨rfl, eh47⟩
 have E48 := Eh.trans eh47
 have z49 := eh47.size
 refine s_pq (.int .i64 (mxTo sm sm.length)) <| s_nil <| p_seqN <| v_seq <| v_ops <| s_pq y <| s_pq (.int .i64 (mxTo sm sm.length)) ?_
 have f50 := (s_y.ext eh47)
 refine s_call [y, .int .i64 (mxTo sm sm.length)] rfl (slices_Index_Lint_int_ok y sm (mxTo sm sm.length) _ f50.toSl) ?_
 rintro _ h51 ⟨rfl, eh51⟩
 have E52 := E48.trans eh51
 have z53 := eh51.size
 refine s_pq (.int .i64 (mxTo sm sm.length)) <| s_pq (.int .i64 (firstF (fun x : Int => decide ((mxTo sm sm.length) = x)) sm 0)) <| s_pq (.int .i64 (mxTo sm sm.length)) <| s_pq (.bool true) <| s_nil <| p_seqN <| v_ret <| p_ret [.int .i64 (firstF (fun x : Int => decide ((mxTo sm sm.length) = x)) sm 0), .int .i64 (mxTo sm sm.length), .bool true] (.tuple #[.int .i64 (firstF (fun x : Int => decide ((mxTo sm sm.length) = x)) sm 0), .int .i64 (mxTo sm sm.length), .bool true]) (fun _ q => q) rfl ?_
 have ho : (fgtOut n l) = ((firstF (fun x : Int => decide ((mxTo sm sm.length) = x)) sm 0), (mxTo sm sm.length), true) := by first | exact if_neg (by rintro ⟨q1, q2, q3⟩; first | contradiction | omega) | (rw [take_all (by assumption)] at hS; (have q_ := sums_best hS (by omega)); rw [fgtOut, if_pos ⟨by assumption, by assumption, by omega⟩, q_.1, q_.2])
 exact ⟨by first | (rw [ho]; done) | rfl, E52⟩

set_option maxRecDepth 10000 in
set_option maxHeartbeats 4000000 in
theorem spec_FoggiestLink_ok (n : NetP) (v_n_towers : Value) (v_n_links : Value) (v_l : Value) (l : List FogD) (h : Heap) (s_n_towers : Sl h v_n_towers n.towers) (s_n_links : Sl h v_n_links n.links) (s_l : Sl h v_l l) : Cn f_spec_FoggiestLink [.agg #[v_n_towers, v_n_links], v_l] h fun v h' => v = .tuple #[.int .i64 ((fgtOut n l).1), .int .i64 ((fgtOut n l).2.1), .bool ((fgtOut n l).2.2)] ∧ Ext h h' := by
 have l63_n_towers := s_n_towers.len63
 have l63_n_links := s_n_links.len63
 have l63_l := s_l.len63
 refine calls_of r_spec_FoggiestLink ?_
 refine v_seq <| v_ops ?_
 refine s_box [v_n_towers, v_n_links] rfl (fun h2 b1 hbb1 hzb1 eh2 bxb1 => ?_)
 have E3 := (Ext.refl h).trans eh2
 have z4 := eh2.size
 have lbb1 := bxb1.lt
 refine s_pq (.int .i64 0) <| s_pq (.int .i64 0) <| s_pq (.bool false) <| s_nil <| p_seqN <| v_seq <| v_seq <| v_ops <| s_load (.agg #[v_n_towers, v_n_links]) (fun _ q => bxb1.loadA rfl q) ?_
 have f5 := (s_n_towers.ext eh2)
 have f6 := (s_n_links.ext eh2)
 refine s_call [.agg #[v_n_towers, v_n_links]] rfl (spec_neGood_ok n v_n_towers v_n_links _ f5 f6) ?_
 rintro _ h7 ⟨rfl, eh7⟩
 have E8 := E3.trans eh7
 have z9 := eh7.size
 refine s_pq (.bool (!decide (NetOk n))) <| s_pq (.bool (!decide (NetOk n))) ?_
 refine s_splitT rfl (fun c10 => ?_) (fun c10 => ?_)
 ·
  refine s_pass rfl <| s_pass rfl <| s_pass rfl <| s_pass rfl <| s_pq (.bool true) <| s_pq (.bool true) <| s_splitY rfl rfl <| s_pass rfl <| s_pass rfl <| s_pass rfl <| s_pass rfl <| s_pq (.bool true) <| s_nil <| p_seqN <| v_condY rfl rfl <| v_seq <| v_ops <| s_pq (.int .i64 0) <| s_pq (.int .i64 0) <| s_pq (.bool false) <| s_nil <| p_seqN <| v_ret <| p_seqR <| p_ret [.int .i64 0, .int .i64 0, .bool false] (.tuple #[.int .i64 0, .int .i64 0, .bool false]) (fun _ q => q) rfl ?_
  have ho : (fgtOut n l) = (0, 0, false) := by first | exact if_neg (by rintro ⟨q1, q2, q3⟩; first | contradiction | omega) | (rw [fgtOut, if_pos ⟨by assumption, by assumption, by omega⟩, show n.links.length = k by omega, hb])
  exact ⟨by first | (rw [ho]; done) | rfl, E8⟩
 have c10 := Classical.not_not.1 c10
 refine s_run rfl ?_
 have f11 := (bxb1.ext eh7)
 refine s_load (.agg #[v_n_towers, v_n_links]) (fun _ q => f11.loadA rfl q) <| s_run rfl <| s_pq v_l <| s_run rfl ?_
 have f12 := (f5.ext eh7)
 have f13 := (f6.ext eh7)
 have f14 := ((s_l.ext eh2).ext eh7)
 refine s_call [.agg #[v_n_towers, v_n_links], v_l] rfl (spec_fgGood_ok n v_n_towers v_n_links v_l l _ f12 f13 f14) ?_
 rintro _ h15 ⟨rfl, eh15⟩
 have E16 := E8.trans eh15
 have z17 := eh15.size
 refine s_run rfl <| s_pq (.bool (!(decide (FogsOk n.links.length l)))) <| s_pq (.bool (!(decide (FogsOk n.links.length l)))) <| s_pq (.bool (!(decide (FogsOk n.links.length l)))) ?_
 refine s_splitT rfl (fun c18 => ?_) (fun c18 => ?_)
 ·
  refine s_pass rfl <| s_pass rfl <| s_pass rfl <| s_pass rfl <| s_pq (.bool true) <| s_nil <| p_seqN <| v_condY rfl rfl <| v_seq <| v_ops <| s_pq (.int .i64 0) <| s_pq (.int .i64 0) <| s_pq (.bool false) <| s_nil <| p_seqN <| v_ret <| p_seqR <| p_ret [.int .i64 0, .int .i64 0, .bool false] (.tuple #[.int .i64 0, .int .i64 0, .bool false]) (fun _ q => q) rfl ?_
  have ho : (fgtOut n l) = (0, 0, false) := by first | exact if_neg (by rintro ⟨q1, q2, q3⟩; first | contradiction | omega) | (rw [fgtOut, if_pos ⟨by assumption, by assumption, by omega⟩, show n.links.length = k by omega, hb])
  exact ⟨by first | (rw [ho]; done) | rfl, E16⟩
 have c18 := Classical.not_not.1 c18
 refine s_run rfl <| s_pq (.pointer (some ⟨b1, 1, none⟩)) <| s_run rfl ?_
 have f19 := (f11.ext eh15)
 refine s_load v_n_links (fun _ q => f19.load rfl q) <| s_run rfl <| s_pure (.int .i64 (n.links.length : Int)) (fun _ q => f13.lenVC q) <| s_run rfl <| s_pq (.bool ((n.links.length : Int) == 0)) <| s_pq (.bool ((n.links.length : Int) == 0)) <| s_nil <| p_seqN ?_
 refine v_cond rfl (fun c20 => ?_) (fun c20 => ?_)
 ·
  refine v_seq <| v_ops <| s_pq (.int .i64 0) <| s_pq (.int .i64 0) <| s_pq (.bool false) <| s_nil <| p_seqN <| v_ret <| p_seqR <| p_ret [.int .i64 0, .int .i64 0, .bool false] (.tuple #[.int .i64 0, .int .i64 0, .bool false]) (fun _ q => q) rfl ?_
  have ho : (fgtOut n l) = (0, 0, false) := by first | exact if_neg (by rintro ⟨q1, q2, q3⟩; first | contradiction | omega) | (rw [fgtOut, if_pos ⟨by assumption, by assumption, by omega⟩, show n.links.length = k by omega, hb])
  exact ⟨by first | (rw [ho]; done) | rfl, E16⟩
 refine v_skip <| p_seqN <| v_seq <| v_ops <| s_pq (.int .i64 0) <| s_pq (.int .i64 (-1)) <| s_nil <| p_seqN <| v_seq <| v_seq <| v_ops <| s_pq (.pointer (some ⟨b1, 1, none⟩)) <| s_load v_n_links (fun _ q => f19.load rfl q) <| s_pure (.int .i64 (n.links.length : Int)) (fun _ q => f13.lenVC q) <| s_pq (.int .i64 0) <| s_nil <| p_seqN <| v_block <| v_loop3 (α := Nat) (β := Int) (γ := Int) (fun k b m => [(1, v_l), (7, .int .i64 b), (8, .int .i64 m), (28, .int .i64 (n.links.length : Int)), (29, .int .i64 (k : Int))]) (fun k b m hh => Ext h hh ∧ k ≤ n.links.length ∧ bestTo l k = (b, m)) (fun k b m => n.links.length - k) 0 0 (-1) ⟨rfl, rfl, rfl, rfl, rfl⟩ ⟨E16, (by exact ⟨by omega, rfl⟩)⟩ ?_
 rintro k b m R22 h21 ⟨Eh, ⟨hk, hb⟩⟩
 have zEh := Eh.size
 have f26 := s_l.ext Eh
 have h40 := (by assumption : NetOk n).l2
 refine v_seq <| v_ops <| s_pq (.bool (decide ((k : Int) < (n.links.length : Int)))) <| s_nil <| p_seqN <| v_seq ?_
 refine v_cond rfl (fun c27 => ?_) (fun c27 => ?_)
 ·
  refine v_skip <| p_seqN <| v_seq <| v_block <| v_seq <| v_ops <| s_pq (.int .i64 (k : Int)) <| s_pq (.int .i64 (k : Int)) <| s_nil <| p_seqN <| v_seq <| v_ops <| s_pq v_l <| s_pq (.int .i64 (k : Int)) <| s_call [v_l, .int .i64 (k : Int), .int .i64 0, .int .i64 10000] rfl (spec_fgSeconds_ok v_l l (k : Int) 0 10000 _ f26 _ (by assumption : FogsOk n.links.length l) (by omega) (by omega) (by omega)) ?_
  rintro _ h28 ⟨rfl, eh28⟩
  have E29 := Eh.trans eh28
  have z30 := eh28.size
  refine s_pq (.int .i64 (fgSec l (k : Int) 0 10000)) <| s_nil <| p_seqN <| v_seq <| v_ops <| s_pq (.int .i64 (fgSec l (k : Int) 0 10000)) <| s_pq (.int .i64 m) <| s_pq (.bool (decide ((fgSec l (k : Int) 0 10000) > m))) <| s_nil <| p_seqN ?_
  refine v_cond rfl (fun c31 => ?_) (fun c31 => ?_)
  ·
   refine v_seq <| v_ops <| s_pq (.int .i64 (k : Int)) <| s_pq (.int .i64 (k : Int)) <| s_nil <| p_seqN <| v_ops <| s_pq (.int .i64 (fgSec l (k : Int) 0 10000)) <| s_pq (.int .i64 (fgSec l (k : Int) 0 10000)) <| s_nil <| p_blkN <| p_seqN <| v_ops <| s_pure (.int .i64 ((k : Int) + 1)) (fun _ q => ArithVC.mk (by omega) q) <| s_pq (.int .i64 ((k : Int) + 1)) <| s_nil ?_
   exact p_lpN ⟨k + 1, (k : Int), (fgSec l (k : Int) 0 10000), ⟨rfl, rfl, rfl, rfl, rfl⟩, ⟨E29, (by first | exact ⟨by omega, by rw [bestTo, hb, if_pos (by assumption)]⟩ | exact ⟨by omega, by rw [bestTo, hb, if_neg (by assumption)]⟩)⟩, by omega⟩
  refine v_skip <| p_blkN <| p_seqN <| v_ops <| s_pure (.int .i64 ((k : Int) + 1)) (fun _ q => ArithVC.mk (by omega) q) <| s_pq (.int .i64 ((k : Int) + 1)) <| s_nil ?_
  exact p_lpN ⟨k + 1, b, m, ⟨rfl, rfl, rfl, rfl, rfl⟩, ⟨E29, (by first | exact ⟨by omega, by rw [bestTo, hb, if_pos (by assumption)]⟩ | exact ⟨by omega, by rw [bestTo, hb, if_neg (by assumption)]⟩)⟩, by omega⟩
 refine v_exit <| p_seqX <| p_lpX <| p_blkX <| p_seqN <| v_seq <| v_ops <| s_pq (.int .i64 b) <| s_pq (.int .i64 m) <| s_pq (.int .i64 b) <| s_pq (.int .i64 m) <| s_pq (.bool true) <| s_nil <| p_seqN <| v_ret <| p_ret [.int .i64 b, .int .i64 m, .bool true] (.tuple #[.int .i64 b, .int .i64 m, .bool true]) (fun _ q => q) rfl ?_
 have ho : (fgtOut n l) = (b, m, true) := by first | exact if_neg (by rintro ⟨q1, q2, q3⟩; first | contradiction | omega) | (rw [fgtOut, if_pos ⟨by assumption, by assumption, by omega⟩, show n.links.length = k by omega, hb])
 exact ⟨by first | (rw [ho]; done) | rfl, Eh⟩

theorem laws_pIn_ok (v_l : Value) (l : List Int) (n : Int) (h : Heap) (s_l : Sl h v_l l) : Cn f_laws_pIn [v_l, .int .i64 n] h fun v h' => v = .bool (decide (n ∈ l)) ∧ Ext h h' := by
 have l63_l := s_l.len63
 refine calls_of r_laws_pIn ?_
 refine v_seq <| v_ops <| s_pq (.bool false) <| s_nil <| p_seqN <| v_seq <| v_seq <| v_ops <| s_pq v_l <| s_pure (.int .i64 (l.length : Int)) (fun _ q => s_l.lenVC q) <| s_pq (.int .i64 0) <| s_nil <| p_seqN <| v_block <| v_loop1 (α := Nat) (fun k => [(1, .int .i64 n), (7, v_l), (8, .int .i64 (l.length : Int)), (9, .int .i64 (k : Int))]) (fun k hh => Ext h hh ∧ k ≤ l.length ∧ ∀ y ∈ l.take k, y ≠ n) (fun k => l.length - k) 0 ⟨rfl, rfl, rfl, rfl⟩ ⟨(Ext.refl h), (by simp)⟩ ?_
 rintro k R2 h1 ⟨Eh, ⟨hk, hall⟩⟩
 have zEh := Eh.size
 have f4 := s_l.ext Eh
 refine v_seq <| v_ops <| s_pq (.bool (decide ((k : Int) < (l.length : Int)))) <| s_nil <| p_seqN <| v_seq ?_
 refine v_cond rfl (fun c5 => ?_) (fun c5 => ?_)
 ·
  refine v_skip <| p_seqN <| v_seq <| v_block <| v_seq <| v_ops ?_
  have hk6 : k < l.length := (by first | omega | (simp; omega))
  obtain ⟨x7, hx7⟩ : ∃ x, l[k]? = some x := ⟨_, List.getElem?_eq_getElem hk6⟩
  refine s_pure (.pointer (some ⟨sblk v_l, soff v_l + k * 1, none⟩)) (fun _ q => f4.idx (k := k) rfl hk6 q) <| s_load (.int .i64 x7) (fun _ q => f4.load1 hx7 rfl q) <| s_pq (.int .i64 x7) <| s_nil <| p_seqN <| v_seq <| v_ops <| s_pq (.int .i64 x7) <| s_pq (.int .i64 n) <| s_pq (.bool (x7 == n)) <| s_nil <| p_seqN ?_
  refine v_cond rfl (fun c8 => ?_) (fun c8 => ?_)
  ·
   refine v_seq <| v_ops <| s_pq (.bool true) <| s_nil <| p_seqN <| v_ret <| p_blkR <| p_seqR <| p_lpR <| p_blkR <| p_seqR <| p_ret [.bool true] (.bool true) (fun _ q => q) rfl ?_
   have ho : (decide (n ∈ l)) = true := by first | exact (mem_bad (by assumption) (by assumption)).symm | exact mem_bad (by assumption) (by assumption) | exact mem_end hall (by assumption) | exact (mem_end hall (by assumption)).symm
   exact ⟨by first | (rw [ho]; done) | rfl, Eh⟩
  refine v_skip <| p_blkN <| p_seqN <| v_ops <| s_pure (.int .i64 ((k : Int) + 1)) (fun _ q => ArithVC.mk (by omega) q) <| s_pq (.int .i64 ((k : Int) + 1)) <| s_nil ?_
  exact p_lpN ⟨k + 1, ⟨rfl, rfl, rfl, rfl⟩, ⟨Eh, (by exact ⟨by omega, ne_snoc hall (by assumption) (by assumption)⟩)⟩, by omega⟩
 refine v_exit <| p_seqX <| p_lpX <| p_blkX <| p_seqN <| v_seq <| v_ops <| s_pq (.bool false) <| s_nil <| p_seqN <| v_ret <| p_ret [.bool false] (.bool false) (fun _ q => q) rfl ?_
 have ho : (decide (n ∈ l)) = false := by first | exact (mem_bad (by assumption) (by assumption)).symm | exact mem_bad (by assumption) (by assumption) | exact mem_end hall (by assumption) | exact (mem_end hall (by assumption)).symm
 exact ⟨by first | (rw [ho]; done) | rfl, Eh⟩

end Go.Proofs.Ytloicopmcagikaa

