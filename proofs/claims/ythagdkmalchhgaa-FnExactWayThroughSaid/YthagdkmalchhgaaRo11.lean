/- Ways found from their end. Condition: none. Printed in part by a program. -/
import Derived.Test.YthagdkmalchhgaaRo10
namespace Go.Proofs.Ythagdkmalchhgaa
open Go.Vc
set_option linter.all false

theorem lkI_min {n : NetP} (hn : NetOk n) (a b : Int) : firstF (fun x : LinkD => decide (x.a = (if b < a then b else a) ∧ x.b = (if b > a then b else a))) n.links 0 = lkI n a b := by
  refine firstF_congr fun x hx => ?_
  obtain ⟨i, hi, rfl⟩ := List.getElem_of_mem hx
  have := hn.at (List.getElem?_eq_getElem hi)
  simp only [btw, decide_eq_decide]
  split <;> split <;> omega
theorem lkI_end {n : NetP} {a b : Int} {k : Nat} (hF : lkI n a b = firstF (btw a b) (n.links.drop k) k) (hk : n.links.length ≤ k) : lkI n a b = -1 := by
  rw [hF, List.drop_of_length_le hk]; rfl
theorem lkI_hit {n : NetP} {a b : Int} {k : Nat} {x : LinkD} (hF : lkI n a b = firstF (btw a b) (n.links.drop k) k) (hx : n.links[k]? = some x) (h : (x.a = a ∧ x.b = b) ∨ (x.a = b ∧ x.b = a)) : lkI n a b = (k : Int) := by
  rw [hF, drop_at hx, firstF, btw, decide_eq_true h]; rfl
theorem lkI_miss {n : NetP} {a b : Int} {k : Nat} {x : LinkD} (hF : lkI n a b = firstF (btw a b) (n.links.drop k) k) (hx : n.links[k]? = some x) (h : ¬ ((x.a = a ∧ x.b = b) ∨ (x.a = b ∧ x.b = a))) : lkI n a b = firstF (btw a b) (n.links.drop (k + 1)) (k + 1) := by
  rw [hF, drop_at hx, firstF, btw, decide_eq_false h]; rfl

theorem slices_IndexFunc_Limpl_Link_impl_Link_ok (v_l : Value) (l : List LinkD) (g : Nat) (fs cs : Array Value) (p : LinkD → Bool) (h : Heap) (s_l : Sl h v_l l) (hc : ∀ x ∈ l, ∀ h2, Ext h h2 → Cn g (fs.toList ++ [.agg #[.int .i64 x.a, .int .i64 x.b, .int .i64 x.delay]] ++ cs.toList) h2 fun r h' => r = .bool (p x) ∧ Ext h2 h') : Cn f_slices_IndexFunc_Limpl_Link_impl_Link [v_l, .func (.func g) fs cs] h fun v h' => v = .int .i64 (firstF p l 0) ∧ Ext h h' := by
  have lt_l := s_l.lt
  have l63_l := s_l.len63
  refine calls_of r_slices_IndexFunc_Limpl_Link_impl_Link ?_
  refine v_seq ?_
  refine v_ops ?_
  refine s_pure (.int .i64 0) (fun _ q => q) ?_
  refine s_nil ?_
  refine p_seqN ?_
  refine v_seq ?_
  refine v_seq ?_
  refine v_ops ?_
  refine s_pure v_l (fun _ q => q) ?_
  refine s_pure (.int .i64 (l.length : Int)) (fun _ q => s_l.lenVC q) ?_
  refine s_pure (.int .i64 0) (fun _ q => q) ?_
  refine s_nil ?_
  refine p_seqN ?_
  refine v_block ?_
  refine v_loop1 (α := Nat) (fun k => [(0, v_l), (1, .func (.func g) fs cs), (7, .int .i64 (l.length : Int)), (8, .int .i64 (k : Int))]) (fun k hh => Ext h hh ∧ k ≤ l.length ∧ firstF p l 0 = firstF p (l.drop k) k) (fun k => l.length - k) 0 ⟨rfl, rfl, rfl, rfl⟩ ⟨(Ext.refl h), (by simp)⟩ ?_
  rintro k R2 h1 ⟨Eh, ⟨hk, hF⟩⟩
  have zEh := Eh.size
  have f3 := s_l.ext Eh
  refine v_seq ?_
  refine v_ops ?_
  refine s_pure (.bool (decide ((k : Int) < (l.length : Int)))) (fun _ q => q) ?_
  refine s_nil ?_
  refine p_seqN ?_
  refine v_seq ?_
  refine v_cond rfl (fun c4 => ?_) (fun c4 => ?_)
  ·
    refine v_skip ?_
    refine p_seqN ?_
    refine v_seq ?_
    refine v_block ?_
    refine v_seq ?_
    refine v_ops ?_
    refine s_pure (.int .i64 (k : Int)) (fun _ q => q) ?_
    refine s_pure (.int .i64 (k : Int)) (fun _ q => q) ?_
    refine s_nil ?_
    refine p_seqN ?_
    refine v_seq ?_
    refine v_ops ?_
    refine s_pure (.func (.func g) fs cs) (fun _ q => q) ?_
    refine s_pure v_l (fun _ q => q) ?_
    refine s_pure (.int .i64 (k : Int)) (fun _ q => q) ?_
    have hk5 : k < l.length := (by first | omega | (simp; omega))
    obtain ⟨x6, hx6⟩ : ∃ x, l[k]? = some x := ⟨_, List.getElem?_eq_getElem hk5⟩
    refine s_pure (.pointer (some ⟨sblk v_l, soff v_l + k * 3, none⟩)) (fun _ q => f3.idx (k := k) rfl hk5 q) ?_
    refine s_load (.agg #[.int .i64 x6.a, .int .i64 x6.b, .int .i64 x6.delay]) (fun _ q => f3.loadN hx6 rfl q) ?_
    refine s_callv (fs.toList ++ [.agg #[.int .i64 x6.a, .int .i64 x6.b, .int .i64 x6.delay]] ++ cs.toList) rfl rfl (hc x6 (List.mem_of_getElem? hx6) _ Eh) ?_
    rintro _ h7 ⟨rfl, eh7⟩
    have E8 := Eh.trans eh7
    have z9 := eh7.size
    refine s_nil ?_
    refine p_seqN ?_
    refine v_cond rfl (fun c10 => ?_) (fun c10 => ?_)
    ·
      refine v_seq ?_
      refine v_ops ?_
      refine s_pure (.int .i64 (k : Int)) (fun _ q => q) ?_
      refine s_pure (.int .i64 (k : Int)) (fun _ q => q) ?_
      refine s_nil ?_
      refine p_seqN ?_
      refine v_ret ?_
      refine p_blkR ?_
      refine p_seqR ?_
      refine p_lpR ?_
      refine p_blkR ?_
      refine p_seqR ?_
      refine p_ret [.int .i64 (k : Int)] (.int .i64 (k : Int)) (fun _ q => q) rfl ?_
      have ho : firstF p l 0 = (k : Int) := by first | (rw [hF, drop_at (by assumption), firstF]; simp [*]; done) | (rw [hF, List.drop_of_length_le (by omega), firstF])
      exact ⟨by first | (rw [ho]; done) | rfl, E8⟩
    ·
      refine v_skip ?_
      refine p_blkN ?_
      refine p_seqN ?_
      refine v_ops ?_
      refine s_pure (.int .i64 ((k : Int) + 1)) (fun _ q => ArithVC.mk (by omega) q) ?_
      refine s_pure (.int .i64 ((k : Int) + 1)) (fun _ q => q) ?_
      refine s_nil ?_
      exact p_lpN ⟨k + 1, ⟨rfl, rfl, rfl, rfl⟩, ⟨E8, (by exact ⟨by omega, by rw [hF, drop_at (by assumption), firstF]; simp [*]⟩)⟩, by omega⟩
  ·
    refine v_exit ?_
    refine p_seqX ?_
    refine p_lpX ?_
    refine p_blkX ?_
    refine p_seqN ?_
    refine v_seq ?_
    refine v_ops ?_
    refine s_pure (.int .i64 (-1)) (fun _ q => q) ?_
    refine s_nil ?_
    refine p_seqN ?_
    refine v_ret ?_
    refine p_ret [.int .i64 (-1)] (.int .i64 (-1)) (fun _ q => q) rfl ?_
    have ho : firstF p l 0 = (-1) := by first | (rw [hF, drop_at (by assumption), firstF]; simp [*]; done) | (rw [hF, List.drop_of_length_le (by omega), firstF])
    exact ⟨by first | (rw [ho]; done) | rfl, Eh⟩

theorem impl_linkIndex_1_ok (x : LinkD) (a : Int) (p_a : Nat) (t_a : TypeId) (b : Int) (p_b : Nat) (t_b : TypeId) (h : Heap) (bx_a : Bx h p_a [.int .i64 a] t_a) (bx_b : Bx h p_b [.int .i64 b] t_b) : Cn f_impl_linkIndex_1 [.agg #[.int .i64 x.a, .int .i64 x.b, .int .i64 x.delay], .pointer (some ⟨p_a, 0, none⟩), .pointer (some ⟨p_b, 0, none⟩)] h fun v h' => v = .bool (decide (x.a = (if b < a then b else a) ∧ x.b = (if b > a then b else a))) ∧ Ext h h' := by
  have lbx_a := bx_a.lt
  have lbx_b := bx_b.lt
  refine calls_of r_impl_linkIndex_1 ?_
  refine v_seq ?_
  refine v_ops ?_
  refine s_box [.int .i64 x.a, .int .i64 x.b, .int .i64 x.delay] rfl (fun h2 b1 hbb1 hzb1 eh2 bxb1 => ?_)
  have E3 := (Ext.refl h).trans eh2
  have z4 := eh2.size
  have lbb1 := bxb1.lt
  refine s_pure (.bool false) (fun _ q => q) ?_
  refine s_nil ?_
  refine p_seqN ?_
  refine v_seq ?_
  refine v_ops ?_
  refine s_pure (.pointer (some ⟨b1, 0, none⟩)) (fun _ q => q) ?_
  refine s_load (.int .i64 x.a) (fun _ q => bxb1.load rfl q) ?_
  have f5 := (bx_a.ext eh2)
  refine s_load (.int .i64 a) (fun _ q => f5.load rfl q) ?_
  have f6 := (bx_b.ext eh2)
  refine s_load (.int .i64 b) (fun _ q => f6.load rfl q) ?_
  refine s_pure (.int .i64 (if b < a then b else a)) (fun _ q => q) ?_
  refine s_pure (.bool (x.a == (if b < a then b else a))) (fun _ q => q) ?_
  refine s_pure (.bool (x.a == (if b < a then b else a))) (fun _ q => q) ?_
  refine s_splitT rfl (fun c7 => ?_) (fun c7 => ?_)
  ·
    refine s_run rfl ?_
    refine s_pure (.pointer (some ⟨b1, 1, none⟩)) (fun _ q => q) ?_
    refine s_run rfl ?_
    refine s_load (.int .i64 x.b) (fun _ q => bxb1.load rfl q) ?_
    refine s_run rfl ?_
    refine s_load (.int .i64 a) (fun _ q => f5.load rfl q) ?_
    refine s_run rfl ?_
    refine s_load (.int .i64 b) (fun _ q => f6.load rfl q) ?_
    refine s_run rfl ?_
    refine s_pure (.int .i64 (if b > a then b else a)) (fun _ q => q) ?_
    refine s_run rfl ?_
    refine s_pure (.bool (x.b == (if b > a then b else a))) (fun _ q => q) ?_
    refine s_pure (.bool (x.b == (if b > a then b else a))) (fun _ q => q) ?_
    refine s_pure (.bool (x.b == (if b > a then b else a))) (fun _ q => q) ?_
    refine s_nil ?_
    refine p_seqN ?_
    refine v_ret ?_
    refine p_ret [.bool (x.b == (if b > a then b else a))] (.bool (x.b == (if b > a then b else a))) (fun _ q => q) rfl ?_
    have ho : (decide (x.a = (if b < a then b else a) ∧ x.b = (if b > a then b else a))) = (x.b == (if b > a then b else a)) := by first | (simp [*]; done) | (rw [Bool.eq_iff_iff]; simp [*])
    exact ⟨by first | (rw [ho]; done) | rfl, E3⟩
  ·
    refine s_pass rfl ?_
    refine s_pass rfl ?_
    refine s_pass rfl ?_
    refine s_pass rfl ?_
    refine s_pass rfl ?_
    refine s_pass rfl ?_
    refine s_pure (.bool false) (fun _ q => q) ?_
    refine s_pure (.bool false) (fun _ q => q) ?_
    refine s_nil ?_
    refine p_seqN ?_
    refine v_ret ?_
    refine p_ret [.bool false] (.bool false) (fun _ q => q) rfl ?_
    have ho : (decide (x.a = (if b < a then b else a) ∧ x.b = (if b > a then b else a))) = false := by first | (simp [*]; done) | (rw [Bool.eq_iff_iff]; simp [*])
    exact ⟨by first | (rw [ho]; done) | rfl, E3⟩

theorem impl_linkIndex_ok (n : NetP) (v_n_towers : Value) (v_n_links : Value) (a : Int) (b : Int) (h : Heap) (s_n_towers : Sl h v_n_towers n.towers) (s_n_links : Sl h v_n_links n.links) (hn : NetOk n) : Cn f_impl_linkIndex [.agg #[v_n_towers, v_n_links], .int .i64 a, .int .i64 b] h fun v h' => v = .int .i64 (lkI n a b) ∧ Ext h h' := by
  have lt_n_towers := s_n_towers.lt
  have l63_n_towers := s_n_towers.len63
  have lt_n_links := s_n_links.lt
  have l63_n_links := s_n_links.len63
  refine calls_of r_impl_linkIndex ?_
  refine v_seq ?_
  refine v_ops ?_
  refine s_box [v_n_towers, v_n_links] rfl (fun h2 b1 hbb1 hzb1 eh2 bxb1 => ?_)
  have E3 := (Ext.refl h).trans eh2
  have z4 := eh2.size
  have lbb1 := bxb1.lt
  refine s_box [.int .i64 a] rfl (fun h6 b5 hbb5 hzb5 eh6 bxb5 => ?_)
  have E7 := E3.trans eh6
  have z8 := eh6.size
  have lbb5 := bxb5.lt
  refine s_box [.int .i64 b] rfl (fun h10 b9 hbb9 hzb9 eh10 bxb9 => ?_)
  have E11 := E7.trans eh10
  have z12 := eh10.size
  have lbb9 := bxb9.lt
  refine s_pure (.int .i64 0) (fun _ q => q) ?_
  refine s_nil ?_
  refine p_seqN ?_
  refine v_seq ?_
  refine v_ops ?_
  refine s_pure (.pointer (some ⟨b1, 1, none⟩)) (fun _ q => q) ?_
  have f13 := ((bxb1.ext eh6).ext eh10)
  refine s_load v_n_links (fun _ q => f13.load rfl q) ?_
  refine s_pure (.func (.func 180) #[] #[.pointer (some ⟨b5, 0, none⟩), .pointer (some ⟨b9, 0, none⟩)]) (fun _ q => q) ?_
  have f14 := (((s_n_links.ext eh2).ext eh6).ext eh10)
  have f15 := (bxb5.ext eh10)
  refine s_call [v_n_links, .func (.func 180) #[] #[.pointer (some ⟨b5, 0, none⟩), .pointer (some ⟨b9, 0, none⟩)]] rfl (slices_IndexFunc_Limpl_Link_impl_Link_ok v_n_links n.links 180 #[] #[.pointer (some ⟨b5, 0, none⟩), .pointer (some ⟨b9, 0, none⟩)] (fun x : LinkD => (decide (x.a = (if b < a then b else a) ∧ x.b = (if b > a then b else a)))) _ f14  (fun x hx h2 e2 => impl_linkIndex_1_ok x a b5 3 b b9 3 h2 (f15.ext e2) (bxb9.ext e2))) ?_
  rintro _ h16 ⟨rfl, eh16⟩
  have E17 := E11.trans eh16
  have z18 := eh16.size
  refine s_pure (.int .i64 (firstF (fun x : LinkD => (decide (x.a = (if b < a then b else a) ∧ x.b = (if b > a then b else a)))) n.links 0)) (fun _ q => q) ?_
  refine s_nil ?_
  refine p_seqN ?_
  refine v_ret ?_
  refine p_ret [.int .i64 (firstF (fun x : LinkD => (decide (x.a = (if b < a then b else a) ∧ x.b = (if b > a then b else a)))) n.links 0)] (.int .i64 (firstF (fun x : LinkD => (decide (x.a = (if b < a then b else a) ∧ x.b = (if b > a then b else a)))) n.links 0)) (fun _ q => q) rfl ?_
  have ho : (lkI n a b) = (firstF (fun x : LinkD => (decide (x.a = (if b < a then b else a) ∧ x.b = (if b > a then b else a)))) n.links 0) := by exact (lkI_min hn a b).symm
  exact ⟨by first | (rw [ho]; done) | rfl, E17⟩

set_option maxRecDepth 10000 in
set_option maxHeartbeats 4000000 in
theorem spec_neLink_ok (n : NetP) (v_n_towers : Value) (v_n_links : Value) (a : Int) (b : Int) (h : Heap) (s_n_towers : Sl h v_n_towers n.towers) (s_n_links : Sl h v_n_links n.links) : Cn f_spec_neLink [.agg #[v_n_towers, v_n_links], .int .i64 a, .int .i64 b] h fun v h' => v = .int .i64 (lkI n a b) ∧ Ext h h' := by
  have lt_n_towers := s_n_towers.lt
  have l63_n_towers := s_n_towers.len63
  have lt_n_links := s_n_links.lt
  have l63_n_links := s_n_links.len63
  refine calls_of r_spec_neLink ?_
  refine v_seq ?_
  refine v_ops ?_
  refine s_box [v_n_towers, v_n_links] rfl (fun h2 b1 hbb1 hzb1 eh2 bxb1 => ?_)
  have E3 := (Ext.refl h).trans eh2
  have z4 := eh2.size
  have lbb1 := bxb1.lt
  refine s_pure (.int .i64 0) (fun _ q => q) ?_
  refine s_nil ?_
  refine p_seqN ?_
  refine v_seq ?_
  refine v_seq ?_
  refine v_ops ?_
  refine s_pure (.pointer (some ⟨b1, 1, none⟩)) (fun _ q => q) ?_
  refine s_load v_n_links (fun _ q => bxb1.load rfl q) ?_
  refine s_pure (.int .i64 (n.links.length : Int)) (fun _ q => s_n_links.lenVC q) ?_
  refine s_pure (.int .i64 0) (fun _ q => q) ?_
  refine s_nil ?_
  refine p_seqN ?_
  refine v_block ?_
  refine v_loop1 (α := Nat) (fun k => [(1, .int .i64 a), (2, .int .i64 b), (10, v_n_links), (11, .int .i64 (n.links.length : Int)), (12, .int .i64 (k : Int))]) (fun k hh => Ext h hh ∧ k ≤ n.links.length ∧ lkI n a b = firstF (btw a b) (n.links.drop k) k) (fun k => n.links.length - k) 0 ⟨rfl, rfl, rfl, rfl, rfl⟩ ⟨E3, (by exact ⟨by omega, rfl⟩)⟩ ?_
  rintro k R6 h5 ⟨Eh, ⟨hk, hF⟩⟩
  have zEh := Eh.size
  have f7 := s_n_towers.ext Eh
  have f8 := s_n_links.ext Eh
  refine v_seq ?_
  refine v_ops ?_
  refine s_pure (.bool (decide ((k : Int) < (n.links.length : Int)))) (fun _ q => q) ?_
  refine s_nil ?_
  refine p_seqN ?_
  refine v_seq ?_
  refine v_cond rfl (fun c9 => ?_) (fun c9 => ?_)
  ·
    refine v_skip ?_
    refine p_seqN ?_
    refine v_seq ?_
    refine v_block ?_
    refine v_seq ?_
    refine v_ops ?_
    refine s_pure (.int .i64 (k : Int)) (fun _ q => q) ?_
    have hk10 : k < n.links.length := (by first | omega | (simp; omega))
    obtain ⟨x11, hx11⟩ : ∃ x, n.links[k]? = some x := ⟨_, List.getElem?_eq_getElem hk10⟩
    refine s_pure (.pointer (some ⟨sblk v_n_links, soff v_n_links + k * 3, none⟩)) (fun _ q => f8.idx (k := k) rfl hk10 q) ?_
    refine s_load (.agg #[.int .i64 x11.a, .int .i64 x11.b, .int .i64 x11.delay]) (fun _ q => f8.loadN hx11 rfl q) ?_
    refine s_new (fun h13 b12 hbb12 hzb12 eh13 bxb12 => ?_)
    have E14 := Eh.trans eh13
    have z15 := eh13.size
    have lbb12 := bxb12.lt
    refine s_pure (.int .i64 (k : Int)) (fun _ q => q) ?_
    refine s_stBx (.agg #[.int .i64 x11.a, .int .i64 x11.b, .int .i64 x11.delay]) [.int .i64 x11.a, .int .i64 x11.b, .int .i64 x11.delay] [.int .i64 x11.a, .int .i64 x11.b, .int .i64 x11.delay] bxb12 rfl rfl rfl rfl (by simp) (all_cons rfl (all_cons rfl (all_cons rfl all_nil))) rfl (fun h16 mh16 sh16 bxx17 => ?_)
    have E18 := E14.mod mh16 (fun b hb => by simp at hb; omega)
    refine s_nil ?_
    refine p_seqN ?_
    refine v_seq ?_
    refine v_ops ?_
    refine s_pure (.pointer (some ⟨b12, 0, none⟩)) (fun _ q => q) ?_
    refine s_load (.int .i64 x11.a) (fun _ q => bxx17.load rfl q) ?_
    refine s_pure (.int .i64 a) (fun _ q => q) ?_
    refine s_pure (.bool (x11.a == a)) (fun _ q => q) ?_
    refine s_pure (.bool (x11.a == a)) (fun _ q => q) ?_
    refine s_splitT rfl (fun c19 => ?_) (fun c19 => ?_)
    ·
      refine s_run rfl ?_
      refine s_pure (.pointer (some ⟨b12, 1, none⟩)) (fun _ q => q) ?_
      refine s_run rfl ?_
      refine s_load (.int .i64 x11.b) (fun _ q => bxx17.load rfl q) ?_
      refine s_run rfl ?_
      refine s_pure (.int .i64 b) (fun _ q => q) ?_
      refine s_run rfl ?_
      refine s_pure (.bool (x11.b == b)) (fun _ q => q) ?_
      refine s_pure (.bool (x11.b == b)) (fun _ q => q) ?_
      refine s_pure (.bool (x11.b == b)) (fun _ q => q) ?_
      refine s_splitT rfl (fun c20 => ?_) (fun c20 => ?_)
      ·
        refine s_pass rfl ?_
        refine s_pass rfl ?_
        refine s_pass rfl ?_
        refine s_pass rfl ?_
        refine s_pass rfl ?_
        refine s_splitU rfl ?_
        refine s_passU rfl ?_
        refine s_passU rfl ?_
        refine s_passU rfl ?_
        refine s_passU rfl ?_
        refine s_pass rfl ?_
        refine s_pure (.bool true) (fun _ q => q) ?_
        refine s_nil ?_
        refine p_seqN ?_
        refine v_condY rfl rfl ?_
        refine v_seq ?_
        refine v_ops ?_
        refine s_pure (.int .i64 (k : Int)) (fun _ q => q) ?_
        refine s_pure (.int .i64 (k : Int)) (fun _ q => q) ?_
        refine s_nil ?_
        refine p_seqN ?_
        refine v_ret ?_
        refine p_blkR ?_
        refine p_seqR ?_
        refine p_lpR ?_
        refine p_blkR ?_
        refine p_seqR ?_
        refine p_ret [.int .i64 (k : Int)] (.int .i64 (k : Int)) (fun _ q => q) rfl ?_
        have ho : (lkI n a b) = (k : Int) := by first | exact lkI_hit hF (by assumption) (by omega) | exact lkI_end hF (by omega)
        exact ⟨by first | (rw [ho]; done) | rfl, E18⟩
      ·
        refine s_run rfl ?_
        refine s_pure (.pointer (some ⟨b12, 0, none⟩)) (fun _ q => q) ?_
        refine s_run rfl ?_
        refine s_load (.int .i64 x11.a) (fun _ q => bxx17.load rfl q) ?_
        refine s_run rfl ?_
        refine s_pure (.int .i64 b) (fun _ q => q) ?_
        refine s_run rfl ?_
        refine s_pure (.bool (x11.a == b)) (fun _ q => q) ?_
        refine s_run rfl ?_
        refine s_pure (.bool (x11.a == b)) (fun _ q => q) ?_
        refine s_splitT rfl (fun c21 => ?_) (fun c21 => ?_)
        ·
          refine s_run rfl ?_
          refine s_pure (.pointer (some ⟨b12, 1, none⟩)) (fun _ q => q) ?_
          refine s_run rfl ?_
          refine s_load (.int .i64 x11.b) (fun _ q => bxx17.load rfl q) ?_
          refine s_run rfl ?_
          refine s_pure (.int .i64 a) (fun _ q => q) ?_
          refine s_run rfl ?_
          refine s_pure (.bool (x11.b == a)) (fun _ q => q) ?_
          refine s_run rfl ?_
          refine s_pure (.bool (x11.b == a)) (fun _ q => q) ?_
          refine s_pure (.bool (x11.b == a)) (fun _ q => q) ?_
          refine s_nil ?_
          refine p_seqN ?_
          refine v_cond rfl (fun c22 => ?_) (fun c22 => ?_)
          ·
            refine v_seq ?_
            refine v_ops ?_
            refine s_pure (.int .i64 (k : Int)) (fun _ q => q) ?_
            refine s_pure (.int .i64 (k : Int)) (fun _ q => q) ?_
            refine s_nil ?_
            refine p_seqN ?_
            refine v_ret ?_
            refine p_blkR ?_
            refine p_seqR ?_
            refine p_lpR ?_
            refine p_blkR ?_
            refine p_seqR ?_
            refine p_ret [.int .i64 (k : Int)] (.int .i64 (k : Int)) (fun _ q => q) rfl ?_
            have ho : (lkI n a b) = (k : Int) := by first | exact lkI_hit hF (by assumption) (by omega) | exact lkI_end hF (by omega)
            exact ⟨by first | (rw [ho]; done) | rfl, E18⟩
          ·
            refine v_skip ?_
            refine p_blkN ?_
            refine p_seqN ?_
            refine v_ops ?_
            refine s_pure (.int .i64 ((k : Int) + 1)) (fun _ q => ArithVC.mk (by omega) q) ?_
            refine s_pure (.int .i64 ((k : Int) + 1)) (fun _ q => q) ?_
            refine s_nil ?_
            exact p_lpN ⟨k + 1, ⟨rfl, rfl, rfl, rfl, rfl⟩, ⟨E18, (by exact ⟨by omega, lkI_miss hF (by assumption) (by omega)⟩)⟩, by omega⟩
        ·
          refine s_pass rfl ?_
          refine s_pass rfl ?_
          refine s_pass rfl ?_
          refine s_pass rfl ?_
          refine s_run rfl ?_
          refine s_pure (.bool false) (fun _ q => q) ?_
          refine s_pure (.bool false) (fun _ q => q) ?_
          refine s_nil ?_
          refine p_seqN ?_
          refine v_condN rfl (by simp) ?_
          refine v_skip ?_
          refine p_blkN ?_
          refine p_seqN ?_
          refine v_ops ?_
          refine s_pure (.int .i64 ((k : Int) + 1)) (fun _ q => ArithVC.mk (by omega) q) ?_
          refine s_pure (.int .i64 ((k : Int) + 1)) (fun _ q => q) ?_
          refine s_nil ?_
          exact p_lpN ⟨k + 1, ⟨rfl, rfl, rfl, rfl, rfl⟩, ⟨E18, (by exact ⟨by omega, lkI_miss hF (by assumption) (by omega)⟩)⟩, by omega⟩
    ·
      refine s_pass rfl ?_
      refine s_pass rfl ?_
      refine s_pass rfl ?_
      refine s_pass rfl ?_
      refine s_pure (.bool false) (fun _ q => q) ?_
      refine s_pure (.bool false) (fun _ q => q) ?_
      refine s_splitN rfl (by simp) ?_
      refine s_run rfl ?_
      refine s_pure (.pointer (some ⟨b12, 0, none⟩)) (fun _ q => q) ?_
      refine s_run rfl ?_
      refine s_load (.int .i64 x11.a) (fun _ q => bxx17.load rfl q) ?_
      refine s_run rfl ?_
      refine s_pure (.int .i64 b) (fun _ q => q) ?_
      refine s_run rfl ?_
      refine s_pure (.bool (x11.a == b)) (fun _ q => q) ?_
      refine s_run rfl ?_
      refine s_pure (.bool (x11.a == b)) (fun _ q => q) ?_
      refine s_splitT rfl (fun c23 => ?_) (fun c23 => ?_)
      ·
        refine s_run rfl ?_
        refine s_pure (.pointer (some ⟨b12, 1, none⟩)) (fun _ q => q) ?_
        refine s_run rfl ?_
        refine s_load (.int .i64 x11.b) (fun _ q => bxx17.load rfl q) ?_
        refine s_run rfl ?_
        refine s_pure (.int .i64 a) (fun _ q => q) ?_
        refine s_run rfl ?_
        refine s_pure (.bool (x11.b == a)) (fun _ q => q) ?_
        refine s_run rfl ?_
        refine s_pure (.bool (x11.b == a)) (fun _ q => q) ?_
        refine s_pure (.bool (x11.b == a)) (fun _ q => q) ?_
        refine s_nil ?_
        refine p_seqN ?_
        refine v_cond rfl (fun c24 => ?_) (fun c24 => ?_)
        ·
          refine v_seq ?_
          refine v_ops ?_
          refine s_pure (.int .i64 (k : Int)) (fun _ q => q) ?_
          refine s_pure (.int .i64 (k : Int)) (fun _ q => q) ?_
          refine s_nil ?_
          refine p_seqN ?_
          refine v_ret ?_
          refine p_blkR ?_
          refine p_seqR ?_
          refine p_lpR ?_
          refine p_blkR ?_
          refine p_seqR ?_
          refine p_ret [.int .i64 (k : Int)] (.int .i64 (k : Int)) (fun _ q => q) rfl ?_
          have ho : (lkI n a b) = (k : Int) := by first | exact lkI_hit hF (by assumption) (by omega) | exact lkI_end hF (by omega)
          exact ⟨by first | (rw [ho]; done) | rfl, E18⟩
        ·
          refine v_skip ?_
          refine p_blkN ?_
          refine p_seqN ?_
          refine v_ops ?_
          refine s_pure (.int .i64 ((k : Int) + 1)) (fun _ q => ArithVC.mk (by omega) q) ?_
          refine s_pure (.int .i64 ((k : Int) + 1)) (fun _ q => q) ?_
          refine s_nil ?_
          exact p_lpN ⟨k + 1, ⟨rfl, rfl, rfl, rfl, rfl⟩, ⟨E18, (by exact ⟨by omega, lkI_miss hF (by assumption) (by omega)⟩)⟩, by omega⟩
      ·
        refine s_pass rfl ?_
        refine s_pass rfl ?_
        refine s_pass rfl ?_
        refine s_pass rfl ?_
        refine s_run rfl ?_
        refine s_pure (.bool false) (fun _ q => q) ?_
        refine s_pure (.bool false) (fun _ q => q) ?_
        refine s_nil ?_
        refine p_seqN ?_
        refine v_condN rfl (by simp) ?_
        refine v_skip ?_
        refine p_blkN ?_
        refine p_seqN ?_
        refine v_ops ?_
        refine s_pure (.int .i64 ((k : Int) + 1)) (fun _ q => ArithVC.mk (by omega) q) ?_
        refine s_pure (.int .i64 ((k : Int) + 1)) (fun _ q => q) ?_
        refine s_nil ?_
        exact p_lpN ⟨k + 1, ⟨rfl, rfl, rfl, rfl, rfl⟩, ⟨E18, (by exact ⟨by omega, lkI_miss hF (by assumption) (by omega)⟩)⟩, by omega⟩
  ·
    refine v_exit ?_
    refine p_seqX ?_
    refine p_lpX ?_
    refine p_blkX ?_
    refine p_seqN ?_
    refine v_seq ?_
    refine v_ops ?_
    refine s_pure (.int .i64 (-1)) (fun _ q => q) ?_
    refine s_nil ?_
    refine p_seqN ?_
    refine v_ret ?_
    refine p_ret [.int .i64 (-1)] (.int .i64 (-1)) (fun _ q => q) rfl ?_
    have ho : (lkI n a b) = (-1) := by first | exact lkI_hit hF (by assumption) (by omega) | exact lkI_end hF (by omega)
    exact ⟨by first | (rw [ho]; done) | rfl, Eh⟩

theorem slices_Reverse_Lint_int_ok (v_l : Value) (l : List Int) (h : Heap) (s_l : SlO h v_l l) (bl : l.length ≤ 1000000) : Cn f_slices_Reverse_Lint_int [v_l] h fun v h' => v = .tuple #[] ∧ SlO h' v_l l.reverse ∧ Mod (blks v_l) h h' ∧ h'.size = h.size := by
  have lt_l := s_l.lt
  have l63_l := s_l.len63
  refine calls_of r_slices_Reverse_Lint_int ?_
  refine v_seq ?_
  refine v_ops ?_
  refine s_pure v_l (fun _ q => q) ?_
  refine s_pure (.int .i64 (l.length : Int)) (fun _ q => s_l.lenVC q) ?_
  refine s_pure (.int .i64 ((l.length : Int) - 1)) (fun _ q => ArithVC.mk (by omega) q) ?_
  refine s_pure (.int .i64 0) (fun _ q => q) ?_
  refine s_pure (.int .i64 ((l.length : Int) - 1)) (fun _ q => q) ?_
  refine s_nil ?_
  refine p_seqN ?_
  refine v_block ?_
  refine v_loop3 (α := Nat) (β := Int) (γ := List Int) (fun i j ll => [(0, v_l), (2, .int .i64 (i : Int)), (3, .int .i64 j)]) (fun i j ll hh => Mod (blks v_l) h hh ∧ SlO hh v_l ll ∧ j = (l.length : Int) - 1 - (i : Int) ∧ i ≤ l.length ∧ RevTo l ll i ∧ hh.size = h.size) (fun i j ll => l.length - i) 0 ((l.length : Int) - 1) l ⟨rfl, rfl, rfl⟩ ⟨(Mod.refl (blks v_l) h), s_l, (by exact ⟨by omega, by omega, RevTo.start l, rfl⟩)⟩ ?_
  rintro i j ll R2 h1 ⟨Eh, s_l, ⟨hj, hi, hr, hsz⟩⟩
  have zEh := Eh.size
  have lt_l := s_l.lt
  have hll := hr.len
  refine v_seq ?_
  refine v_seq ?_
  refine v_ops ?_
  refine s_pure (.int .i64 (i : Int)) (fun _ q => q) ?_
  refine s_pure (.int .i64 j) (fun _ q => q) ?_
  refine s_pure (.bool (decide ((i : Int) < j))) (fun _ q => q) ?_
  refine s_nil ?_
  refine p_seqN ?_
  refine v_cond rfl (fun c3 => ?_) (fun c3 => ?_)
  ·
    refine v_skip ?_
    refine p_seqN ?_
    refine v_seq ?_
    refine v_block ?_
    refine v_draw (DrawVC.hold (blks v_l) ?_)
    refine d_pureT v_l (fun _ q => q) ?_
    refine d_pureT (.int .i64 (i : Int)) (fun _ q => q) ?_
    refine d_pureT v_l (fun _ q => q) ?_
    refine d_pureT (.int .i64 j) (fun _ q => q) ?_
    refine d_pureT v_l (fun _ q => q) ?_
    refine d_pureT (.int .i64 j) (fun _ q => q) ?_
    have hk4 : (l.length - 1 - i) < ll.length := (by first | omega | (simp; omega))
    obtain ⟨x5, hx5⟩ : ∃ x, ll[(l.length - 1 - i)]? = some x := ⟨_, List.getElem?_eq_getElem hk4⟩
    refine d_pureT (.pointer (some ⟨sblk v_l, soff v_l + (l.length - 1 - i) * 1, none⟩)) (fun _ q => s_l.idx (k := (l.length - 1 - i)) (by omega) hk4 q) ?_
    refine d_pureT v_l (fun _ q => q) ?_
    refine d_pureT (.int .i64 (i : Int)) (fun _ q => q) ?_
    have hk6 : i < ll.length := (by first | omega | (simp; omega))
    obtain ⟨x7, hx7⟩ : ∃ x, ll[i]? = some x := ⟨_, List.getElem?_eq_getElem hk6⟩
    refine d_pureT (.pointer (some ⟨sblk v_l, soff v_l + i * 1, none⟩)) (fun _ q => s_l.idx (k := i) rfl hk6 q) ?_
    refine d_loadT (.int .i64 x5) (fun _ q => s_l.take1 (fun b hb => by simp [hb]) hx5 rfl q) ?_
    refine d_loadO (.int .i64 x7) (fun _ q => s_l.load1 hx7 rfl q) ?_
    refine d_pureT (.pointer (some ⟨sblk v_l, soff v_l + i * 1, none⟩)) (fun _ q => s_l.idx (k := i) rfl hk6 q) ?_
    refine d_eff ?_
    refine s_stSl (k := i) (j := 0) x5 (.int .i64 x5) [.int .i64 x5] s_l rfl rfl rfl rfl rfl hx7 (Nat.le_of_ble_eq_true rfl) rfl (all_cons rfl all_nil) (fun h8 mh8 sh8 s9 => ?_)
    have E10 := Eh.new mh8 (fun b hb => Or.inl hb)
    refine s_nil ⟨fun hl => (by cases hl), ?_⟩
    have hk11 : (l.length - 1 - i) < (ll.set i x5).length := (by first | omega | (simp; omega))
    obtain ⟨x12, hx12⟩ : ∃ x, (ll.set i x5)[(l.length - 1 - i)]? = some x := ⟨_, List.getElem?_eq_getElem hk11⟩
    refine d_pureT (.pointer (some ⟨sblk v_l, soff v_l + (l.length - 1 - i) * 1, none⟩)) (fun _ q => s9.idx (k := (l.length - 1 - i)) (by omega) hk11 q) ?_
    refine d_eff ?_
    refine s_stSl (k := (l.length - 1 - i)) (j := 0) x7 (.int .i64 x7) [.int .i64 x7] s9 rfl rfl rfl rfl rfl hx12 (Nat.le_of_ble_eq_true rfl) rfl (all_cons rfl all_nil) (fun h13 mh13 sh13 s14 => ?_)
    have E15 := E10.new mh13 (fun b hb => Or.inl hb)
    refine s_nil ⟨fun hl => (by cases hl), ?_⟩
    refine d_done ?_
    refine p_blkN ?_
    refine p_seqN ?_
    refine v_ops ?_
    refine s_pure (.int .i64 (i : Int)) (fun _ q => q) ?_
    refine s_pure (.int .i64 ((i : Int) + 1)) (fun _ q => ArithVC.mk (by omega) q) ?_
    refine s_pure (.int .i64 j) (fun _ q => q) ?_
    refine s_pure (.int .i64 (j - 1)) (fun _ q => ArithVC.mk (by omega) q) ?_
    refine s_pure (.int .i64 ((i : Int) + 1)) (fun _ q => q) ?_
    refine s_pure (.int .i64 (j - 1)) (fun _ q => q) ?_
    refine s_nil ?_
    exact p_lpN ⟨i + 1, (j - 1), ((ll.set i x5).set (l.length - 1 - i) x7), ⟨rfl, rfl, rfl⟩, ⟨E15, (sl_eq s14 rfl), (by exact ⟨by omega, by omega, hr.step (by omega) (by assumption) (by assumption), by omega⟩)⟩, by omega⟩
  ·
    refine v_exit ?_
    refine p_seqX ?_
    refine p_lpX ?_
    refine p_blkX ?_
    refine p_end [] (.tuple #[]) (fun _ q => q) rfl ?_
    exact ⟨rfl, sl_eq s_l (hr.ends (by omega)), Eh, hsz⟩


theorem way_yes {n : NetP} {way : List Int} {k : Nat} (hl : 1 ≤ way.length ∧ way.length ≤ 16) (ha : AllIn 0 ((n.towers.length : Int) - 1) way) (h : WayTo n way k) (hk : way.length ≤ k) : WayOk n way := of_decide_eq_true (way_end hl ha h (by omega))
theorem along_ask {n : NetP} {l : List FogD} {way : List Int} {t : Int} (h : (alongOf n l way t).2.2 = true) : AlongAsk n l way t := by
  unfold alongOf at h
  split at h
  · assumption
  · cases h
theorem lk_of {n : NetP} {k : Int} {z : LinkD} (h0 : 0 ≤ k) (h1 : k ≤ (n.links.length : Int) - 1) (hz : n.links[k.toNat]? = some z) : lk n k = z := Option.some.inj ((lk_at h0 h1).symm.trans hz)
theorem al_wide2 {n : NetP} {l : List FogD} {way : List Int} {t : Int} (hA : AlongAsk n l way t) {k : Nat} {z u : Int} (hz : (linksOf n way)[k]? = some z) (hu : 0 ≤ u ∧ u ≤ 20000) :
    (0 ≤ z ∧ z ≤ (n.links.length : Int) - 1) ∧ (u < over l z (lk n z) u ∧ over l z (lk n z) u ≤ 30000) ∧ 1 ≤ (lk n z).delay ∧ (lk n z).delay ≤ 60 := by
  have hzb := hA.hw.links hA.hn hz
  have hok := hA.hn.at (lk_at hzb.1 hzb.2)
  have h1 := over_gt l z (x := lk n z) u hok.2.2.2.1
  have h2 := stF_le hA.hf z (lk n z).delay u
  refine ⟨hzb, ⟨h1, ?_⟩, hok.2.2.2⟩
  unfold over; omega
theorem al_wide {n : NetP} {l : List FogD} {way : List Int} {t : Int} (hA : AlongAsk n l way t) {k : Nat} {x y u : Int} (hx : way[k]? = some x) (hy : way[k + 1]? = some y) (hu : 0 ≤ u ∧ u ≤ 20000) :
    (0 ≤ lkI n x y ∧ lkI n x y ≤ (n.links.length : Int) - 1) ∧ (u < over l (lkI n x y) (lk n (lkI n x y)) u ∧ over l (lkI n x y) (lk n (lkI n x y)) u ≤ 30000) ∧ 1 ≤ (lk n (lkI n x y)).delay ∧ (lk n (lkI n x y)).delay ≤ 60 := al_wide2 hA (linksOf_at hx hy) hu
theorem al_step2 {n : NetP} {l : List FogD} {way : List Int} {t : Int} (hA : AlongAsk n l way t) {k : Nat} {z u : Int} {ws : List Int} {q : LinkD} (hs : (u, ws) = alTo n l ((linksOf n way).take k) t) (hz : (linksOf n way)[k]? = some z) (hq : n.links[z.toNat]? = some q) :
    (over l z (lk n z) u, ws ++ [over l z (lk n z) u - u - q.delay]) = alTo n l ((linksOf n way).take (k + 1)) t := by
  have hzb := hA.hw.links hA.hn hz
  rw [snoc_get hz, alTo_snoc, ← hs, alStep, lk_of hzb.1 hzb.2 hq]
theorem al_step {n : NetP} {l : List FogD} {way : List Int} {t : Int} (hA : AlongAsk n l way t) {k : Nat} {x y u : Int} {ws : List Int} {q : LinkD} (hs : (u, ws) = alTo n l ((linksOf n way).take k) t) (hx : way[k]? = some x) (hy : way[k + 1]? = some y) (hq : n.links[(lkI n x y).toNat]? = some q) :
    (over l (lkI n x y) (lk n (lkI n x y)) u, ws ++ [over l (lkI n x y) (lk n (lkI n x y)) u - u - q.delay]) = alTo n l ((linksOf n way).take (k + 1)) t := al_step2 hA hs (linksOf_at hx hy) hq
theorem linksOf_len (n : NetP) (way : List Int) : (linksOf n way).length = way.length - 1 := by rw [linksOf, linksTo_len]
theorem al_end {n : NetP} {l : List FogD} {way : List Int} {t : Int} (hA : AlongAsk n l way t) {k : Nat} {u : Int} {ws : List Int} (hs : (u, ws) = alTo n l ((linksOf n way).take k) t) (hk : way.length - 1 ≤ k) : alongOf n l way t = (u, ws, true) := by
  rw [List.take_of_length_le (by rw [linksOf_len]; exact hk)] at hs
  rw [along_yes hA, ← hs]
theorem al_bd {n : NetP} {l : List FogD} {way : List Int} {t : Int} (hA : AlongAsk n l way t) {k : Nat} (hk : k ≤ way.length - 1) : 0 ≤ (alTo n l ((linksOf n way).take k) t).1 ∧ (alTo n l ((linksOf n way).take k) t).1 ≤ 20000 := by
  have h1 := alTo_bd hA.hn hA.hf hA.hw hA.ht k (by rw [linksOf_len]; exact hk)
  have h2 := hA.hw.len
  have h3 := hA.ht
  omega
theorem al_bd2 {n : NetP} {l : List FogD} {way : List Int} {t : Int} (hA : AlongAsk n l way t) {k : Nat} {u : Int} {ws : List Int} (hs : (u, ws) = alTo n l ((linksOf n way).take k) t) (hk : k ≤ way.length - 1) : (0 ≤ u ∧ u ≤ 20000) ∧ ws.length ≤ way.length ∧ way.length ≤ 16 := by
  have h1 := al_bd hA hk
  have h2 := alTo_len n l ((linksOf n way).take k) t
  rw [← hs] at h1 h2
  have h4 := hA.hw.len
  simp only [List.length_take, linksOf_len] at h2
  exact ⟨h1, by omega, h4.2⟩
theorem al_wait {n : NetP} {l : List FogD} {way : List Int} {t : Int} (hA : AlongAsk n l way t) {k : Nat} {x y w : Int} {q : LinkD} (hw : (alongOf n l way t).2.1[k]? = some w) (hx : way[k]? = some x) (hy : way[k + 1]? = some y) (hq : n.links[(lkI n x y).toNat]? = some q) :
    (alTo n l ((linksOf n way).take (k + 1)) t).1 = (alTo n l ((linksOf n way).take k) t).1 + (w + q.delay) := by
  have hz := linksOf_at (n := n) hx hy
  have hzb := hA.hw.links hA.hn hz
  rw [along_yes hA] at hw
  rw [← lk_of hzb.1 hzb.2 hq]
  exact alTo_wait hz hw
noncomputable def lnkOf (n : NetP) (way : List Int) : List Int × Bool := if WayOk n way then (linksOf n way, true) else ([], false)
theorem lnk_yes {n : NetP} {way : List Int} (h : WayOk n way) : lnkOf n way = (linksOf n way, true) := by rw [lnkOf, if_pos h]
theorem lnk_no {n : NetP} {way : List Int} (h : ¬ WayOk n way) : lnkOf n way = ([], false) := by rw [lnkOf, if_neg h]
theorem lnk_ask {n : NetP} {way : List Int} (h : (lnkOf n way).2 = true) : WayOk n way := by
  unfold lnkOf at h
  split at h
  · assumption
  · cases h
theorem rl_step {n : NetP} {way : List Int} {k : Nat} {x y : Int} (h : WayTo n way (k + 1)) (hx : way[k]? = some x) (hy : way[k + 1]? = some y) (h1 : ¬ lkI n x y < 0) (h2 : ¬ y ∈ way.take (k + 1)) : WayTo n way (k + 1 + 1) :=
  way_snoc h hy h2 (fun _ z hz => by
    rw [Nat.add_sub_cancel, hx] at hz
    obtain rfl := Option.some.inj hz
    omega)
theorem rl_bad {n : NetP} {way : List Int} {k : Nat} {x y : Int} (hx : way[k]? = some x) (hy : way[k + 1]? = some y) (h1 : lkI n x y < 0 ∨ y ∈ way.take (k + 1)) : lnkOf n way = ([], false) := lnk_no fun hw => by
  have := hw.step (k + 1) y hy
  rcases h1 with h1 | h1
  · have h3 := this.2 (by omega) x (by rw [Nat.add_sub_cancel]; exact hx)
    omega
  · exact this.1 h1
noncomputable def waitsOf (n : NetP) (l : List FogD) (way : List Int) (t : Int) : List Int × Bool := ((alongOf n l way t).2.1, (alongOf n l way t).2.2)
noncomputable def arrivOf (n : NetP) (l : List FogD) (way : List Int) (t : Int) : Int × Bool := ((alongOf n l way t).1, (alongOf n l way t).2.2)
theorem waits_end {n : NetP} {l : List FogD} {way : List Int} {t : Int} (hA : AlongAsk n l way t) {k : Nat} {u : Int} {ws : List Int} (hs : (u, ws) = alTo n l ((linksOf n way).take k) t) (hk : way.length - 1 ≤ k) : waitsOf n l way t = (ws, true) := by rw [waitsOf, al_end hA hs hk]
theorem waits_no {n : NetP} {l : List FogD} {way : List Int} {t : Int} (h : ¬ AlongAsk n l way t) : waitsOf n l way t = ([], false) := by rw [waitsOf, along_no h]
theorem arriv_no {n : NetP} {l : List FogD} {way : List Int} {t : Int} (h : ¬ (waitsOf n l way t).2 = true) : arrivOf n l way t = (0, false) := by
  rw [arrivOf, along_no (fun hA => h (by rw [waitsOf, along_yes hA]))]
theorem arriv_end {n : NetP} {l : List FogD} {way : List Int} {t : Int} (hA : AlongAsk n l way t) {k : Nat} {u : Int} (hu : u = (alTo n l ((linksOf n way).take k) t).1) (hk : way.length - 1 ≤ k) : arrivOf n l way t = (u, true) := by
  rw [arrivOf, al_end hA (u := u) (ws := (alTo n l ((linksOf n way).take k) t).2) (by rw [hu]) hk]
theorem mem_take {l : List Int} {k : Nat} {a : Int} (h : ∀ y ∈ l.take k, y ≠ a) (hk : l.length ≤ k) : ¬ a ∈ l := fun hm => h a (by rw [List.take_of_length_le hk]; exact hm) rfl
theorem has_of {l : List Int} {a : Int} (h : firstF (fun x : Int => decide (a = x)) l 0 ≥ 0) : a ∈ l := by
  have := (firstF_nonneg (fun x : Int => decide (a = x)) l 0).1 h
  obtain ⟨x, hx, he⟩ := List.any_eq_true.1 this
  simp at he; subst he; exact hx

theorem spec_l1Has_ok (v_l : Value) (l : List Int) (a : Int) (h : Heap) (s_l : Sl h v_l l) : Cn f_spec_l1Has [v_l, .int .i64 a] h fun v h' => v = .bool (decide (a ∈ l)) ∧ Ext h h' := by
  have lt_l := s_l.lt
  have l63_l := s_l.len63
  refine calls_of r_spec_l1Has ?_
  refine v_seq ?_
  refine v_ops ?_
  refine s_pure (.bool false) (fun _ q => q) ?_
  refine s_nil ?_
  refine p_seqN ?_
  refine v_seq ?_
  refine v_seq ?_
  refine v_ops ?_
  refine s_pure v_l (fun _ q => q) ?_
  refine s_pure (.int .i64 (l.length : Int)) (fun _ q => s_l.lenVC q) ?_
  refine s_pure (.int .i64 0) (fun _ q => q) ?_
  refine s_nil ?_
  refine p_seqN ?_
  refine v_block ?_
  refine v_loop1 (α := Nat) (fun k => [(1, .int .i64 a), (7, v_l), (8, .int .i64 (l.length : Int)), (9, .int .i64 (k : Int))]) (fun k hh => Ext h hh ∧ k ≤ l.length ∧ ∀ y ∈ l.take k, y ≠ a) (fun k => l.length - k) 0 ⟨rfl, rfl, rfl, rfl⟩ ⟨(Ext.refl h), (by simp)⟩ ?_
  rintro k R2 h1 ⟨Eh, ⟨hk, hall⟩⟩
  have zEh := Eh.size
  have f3 := s_l.ext Eh
  refine v_seq ?_
  refine v_ops ?_
  refine s_pure (.bool (decide ((k : Int) < (l.length : Int)))) (fun _ q => q) ?_
  refine s_nil ?_
  refine p_seqN ?_
  refine v_seq ?_
  refine v_cond rfl (fun c4 => ?_) (fun c4 => ?_)
  ·
    refine v_skip ?_
    refine p_seqN ?_
    refine v_seq ?_
    refine v_block ?_
    refine v_seq ?_
    refine v_ops ?_
    have hk5 : k < l.length := (by first | omega | (simp; omega))
    obtain ⟨x6, hx6⟩ : ∃ x, l[k]? = some x := ⟨_, List.getElem?_eq_getElem hk5⟩
    refine s_pure (.pointer (some ⟨sblk v_l, soff v_l + k * 1, none⟩)) (fun _ q => f3.idx (k := k) rfl hk5 q) ?_
    refine s_load (.int .i64 x6) (fun _ q => f3.load1 hx6 rfl q) ?_
    refine s_pure (.int .i64 x6) (fun _ q => q) ?_
    refine s_nil ?_
    refine p_seqN ?_
    refine v_seq ?_
    refine v_ops ?_
    refine s_pure (.int .i64 x6) (fun _ q => q) ?_
    refine s_pure (.int .i64 a) (fun _ q => q) ?_
    refine s_pure (.bool (x6 == a)) (fun _ q => q) ?_
    refine s_nil ?_
    refine p_seqN ?_
    refine v_cond rfl (fun c7 => ?_) (fun c7 => ?_)
    ·
      refine v_seq ?_
      refine v_ops ?_
      refine s_pure (.bool true) (fun _ q => q) ?_
      refine s_nil ?_
      refine p_seqN ?_
      refine v_ret ?_
      refine p_blkR ?_
      refine p_seqR ?_
      refine p_lpR ?_
      refine p_blkR ?_
      refine p_seqR ?_
      refine p_ret [.bool true] (.bool true) (fun _ q => q) rfl ?_
      have ho : (decide (a ∈ l)) = true := by first | exact decide_eq_true (by (have hm := List.mem_of_getElem? (by assumption : l[k]? = some x6)); (have e : x6 = a := (by assumption)); rw [← e]; exact hm) | exact decide_eq_false (mem_take hall (by omega))
      exact ⟨by first | (rw [ho]; done) | rfl, Eh⟩
    ·
      refine v_skip ?_
      refine p_blkN ?_
      refine p_seqN ?_
      refine v_ops ?_
      refine s_pure (.int .i64 ((k : Int) + 1)) (fun _ q => ArithVC.mk (by omega) q) ?_
      refine s_pure (.int .i64 ((k : Int) + 1)) (fun _ q => q) ?_
      refine s_nil ?_
      exact p_lpN ⟨k + 1, ⟨rfl, rfl, rfl, rfl⟩, ⟨Eh, (by exact ⟨by omega, all_snoc (P := fun y => y ≠ a) hall (by assumption) (by assumption)⟩)⟩, by omega⟩
  ·
    refine v_exit ?_
    refine p_seqX ?_
    refine p_lpX ?_
    refine p_blkX ?_
    refine p_seqN ?_
    refine v_seq ?_
    refine v_ops ?_
    refine s_pure (.bool false) (fun _ q => q) ?_
    refine s_nil ?_
    refine p_seqN ?_
    refine v_ret ?_
    refine p_ret [.bool false] (.bool false) (fun _ q => q) rfl ?_
    have ho : (decide (a ∈ l)) = false := by first | exact decide_eq_true (by (have hm := List.mem_of_getElem? (by assumption : l[k]? = some x__)); (have e : x__ = a := (by assumption)); rw [← e]; exact hm) | exact decide_eq_false (mem_take hall (by omega))
    exact ⟨by first | (rw [ho]; done) | rfl, Eh⟩

theorem slices_Index_Lint_int_ok (v_l : Value) (l : List Int) (a : Int) (h : Heap) (s_l : Sl h v_l l) : Cn f_slices_Index_Lint_int [v_l, .int .i64 a] h fun v h' => v = .int .i64 (firstF (fun x : Int => decide (a = x)) l 0) ∧ Ext h h' := by
  have lt_l := s_l.lt
  have l63_l := s_l.len63
  refine calls_of r_slices_Index_Lint_int ?_
  refine v_seq ?_
  refine v_ops ?_
  refine s_pure (.int .i64 0) (fun _ q => q) ?_
  refine s_nil ?_
  refine p_seqN ?_
  refine v_seq ?_
  refine v_seq ?_
  refine v_ops ?_
  refine s_pure v_l (fun _ q => q) ?_
  refine s_pure (.int .i64 (l.length : Int)) (fun _ q => s_l.lenVC q) ?_
  refine s_pure (.int .i64 0) (fun _ q => q) ?_
  refine s_nil ?_
  refine p_seqN ?_
  refine v_block ?_
  refine v_loop1 (α := Nat) (fun k => [(0, v_l), (1, .int .i64 a), (7, .int .i64 (l.length : Int)), (8, .int .i64 (k : Int))]) (fun k hh => Ext h hh ∧ k ≤ l.length ∧ firstF (fun x : Int => decide (a = x)) l 0 = firstF (fun x : Int => decide (a = x)) (l.drop k) k) (fun k => l.length - k) 0 ⟨rfl, rfl, rfl, rfl⟩ ⟨(Ext.refl h), (by simp)⟩ ?_
  rintro k R2 h1 ⟨Eh, ⟨hk, hF⟩⟩
  have zEh := Eh.size
  have f3 := s_l.ext Eh
  refine v_seq ?_
  refine v_ops ?_
  refine s_pure (.bool (decide ((k : Int) < (l.length : Int)))) (fun _ q => q) ?_
  refine s_nil ?_
  refine p_seqN ?_
  refine v_seq ?_
  refine v_cond rfl (fun c4 => ?_) (fun c4 => ?_)
  ·
    refine v_skip ?_
    refine p_seqN ?_
    refine v_seq ?_
    refine v_block ?_
    refine v_seq ?_
    refine v_ops ?_
    refine s_pure (.int .i64 (k : Int)) (fun _ q => q) ?_
    refine s_pure (.int .i64 (k : Int)) (fun _ q => q) ?_
    refine s_nil ?_
    refine p_seqN ?_
    refine v_seq ?_
    refine v_ops ?_
    refine s_pure (.int .i64 a) (fun _ q => q) ?_
    refine s_pure v_l (fun _ q => q) ?_
    refine s_pure (.int .i64 (k : Int)) (fun _ q => q) ?_
    have hk5 : k < l.length := (by first | omega | (simp; omega))
    obtain ⟨x6, hx6⟩ : ∃ x, l[k]? = some x := ⟨_, List.getElem?_eq_getElem hk5⟩
    refine s_pure (.pointer (some ⟨sblk v_l, soff v_l + k * 1, none⟩)) (fun _ q => f3.idx (k := k) rfl hk5 q) ?_
    refine s_load (.int .i64 x6) (fun _ q => f3.load1 hx6 rfl q) ?_
    refine s_pure (.bool (a == x6)) (fun _ q => q) ?_
    refine s_nil ?_
    refine p_seqN ?_
    refine v_cond rfl (fun c7 => ?_) (fun c7 => ?_)
    ·
      refine v_seq ?_
      refine v_ops ?_
      refine s_pure (.int .i64 (k : Int)) (fun _ q => q) ?_
      refine s_pure (.int .i64 (k : Int)) (fun _ q => q) ?_
      refine s_nil ?_
      refine p_seqN ?_
      refine v_ret ?_
      refine p_blkR ?_
      refine p_seqR ?_
      refine p_lpR ?_
      refine p_blkR ?_
      refine p_seqR ?_
      refine p_ret [.int .i64 (k : Int)] (.int .i64 (k : Int)) (fun _ q => q) rfl ?_
      have ho : (firstF (fun x : Int => decide (a = x)) l 0) = (k : Int) := by first | (rw [hF, drop_at (by assumption), firstF, decide_eq_true (by assumption)]; rfl) | (rw [hF, List.drop_of_length_le (by omega), firstF])
      exact ⟨by first | (rw [ho]; done) | rfl, Eh⟩
    ·
      refine v_skip ?_
      refine p_blkN ?_
      refine p_seqN ?_
      refine v_ops ?_
      refine s_pure (.int .i64 ((k : Int) + 1)) (fun _ q => ArithVC.mk (by omega) q) ?_
      refine s_pure (.int .i64 ((k : Int) + 1)) (fun _ q => q) ?_
      refine s_nil ?_
      exact p_lpN ⟨k + 1, ⟨rfl, rfl, rfl, rfl⟩, ⟨Eh, (by exact ⟨by omega, by rw [hF, drop_at (by assumption), firstF, decide_eq_false (by assumption)]; rfl⟩)⟩, by omega⟩
  ·
    refine v_exit ?_
    refine p_seqX ?_
    refine p_lpX ?_
    refine p_blkX ?_
    refine p_seqN ?_
    refine v_seq ?_
    refine v_ops ?_
    refine s_pure (.int .i64 (-1)) (fun _ q => q) ?_
    refine s_nil ?_
    refine p_seqN ?_
    refine v_ret ?_
    refine p_ret [.int .i64 (-1)] (.int .i64 (-1)) (fun _ q => q) rfl ?_
    have ho : (firstF (fun x : Int => decide (a = x)) l 0) = (-1) := by first | (rw [hF, drop_at (by assumption), firstF, decide_eq_true (by assumption)]; rfl) | (rw [hF, List.drop_of_length_le (by omega), firstF])
    exact ⟨by first | (rw [ho]; done) | rfl, Eh⟩

theorem slices_Contains_Lint_int_ok (v_l : Value) (l : List Int) (a : Int) (h : Heap) (s_l : Sl h v_l l) : Cn f_slices_Contains_Lint_int [v_l, .int .i64 a] h fun v h' => v = .bool (decide (a ∈ l)) ∧ Ext h h' := by
  have lt_l := s_l.lt
  have l63_l := s_l.len63
  refine calls_of r_slices_Contains_Lint_int ?_
  refine v_seq ?_
  refine v_ops ?_
  refine s_pure (.bool false) (fun _ q => q) ?_
  refine s_nil ?_
  refine p_seqN ?_
  refine v_seq ?_
  refine v_ops ?_
  refine s_pure v_l (fun _ q => q) ?_
  refine s_pure (.int .i64 a) (fun _ q => q) ?_
  refine s_call [v_l, .int .i64 a] rfl (slices_Index_Lint_int_ok v_l l a _ s_l) ?_
  rintro _ h1 ⟨rfl, eh1⟩
  have E2 := (Ext.refl h).trans eh1
  have z3 := eh1.size
  refine s_pure (.bool (decide ((firstF (fun x : Int => decide (a = x)) l 0) ≥ 0))) (fun _ q => q) ?_
  refine s_pure (.bool (decide ((firstF (fun x : Int => decide (a = x)) l 0) ≥ 0))) (fun _ q => q) ?_
  refine s_nil ?_
  refine p_seqN ?_
  refine v_ret ?_
  refine p_ret [.bool (decide ((firstF (fun x : Int => decide (a = x)) l 0) ≥ 0))] (.bool (decide ((firstF (fun x : Int => decide (a = x)) l 0) ≥ 0))) (fun _ q => q) rfl ?_
  have ho : (decide (a ∈ l)) = (decide ((firstF (fun x : Int => decide (a = x)) l 0) ≥ 0)) := by rw [Bool.eq_iff_iff, decide_eq_true_eq, decide_eq_true_eq]; exact ⟨fun hm => (firstF_nonneg _ l 0).2 (List.any_eq_true.2 ⟨a, hm, by simp⟩), has_of⟩
  exact ⟨by first | (rw [ho]; done) | rfl, E2⟩

set_option maxRecDepth 10000 in
set_option maxHeartbeats 4000000 in
theorem impl_isWay_ok (n : NetP) (v_n_towers : Value) (v_n_links : Value) (v_way : Value) (way : List Int) (h : Heap) (s_n_towers : Sl h v_n_towers n.towers) (s_n_links : Sl h v_n_links n.links) (s_way : Sl h v_way way) (hn : NetOk n) : Cn f_impl_isWay [.agg #[v_n_towers, v_n_links], v_way] h fun v h' => v = .bool (decide (WayOk n way)) ∧ Ext h h' := by
  have lt_n_towers := s_n_towers.lt
  have l63_n_towers := s_n_towers.len63
  have lt_n_links := s_n_links.lt
  have l63_n_links := s_n_links.len63
  have lt_way := s_way.lt
  have l63_way := s_way.len63
  refine calls_of r_impl_isWay ?_
  refine v_seq ?_
  refine v_ops ?_
  refine s_box [v_n_towers, v_n_links] rfl (fun h2 b1 hbb1 hzb1 eh2 bxb1 => ?_)
  have E3 := (Ext.refl h).trans eh2
  have z4 := eh2.size
  have lbb1 := bxb1.lt
  refine s_pure (.bool false) (fun _ q => q) ?_
  refine s_nil ?_
  refine p_seqN ?_
  refine v_seq ?_
  refine v_seq ?_
  refine v_ops ?_
  refine s_pure v_way (fun _ q => q) ?_
  refine s_pure (.int .i64 (way.length : Int)) (fun _ q => s_way.lenVC q) ?_
  refine s_callS [.int .i64 (way.length : Int), .int .i64 1, .int .i64 16] (.bool (decide (1 ≤ (way.length : Int) ∧ (way.length : Int) ≤ 16))) rfl (within_ok (way.length : Int) 1 16 _ ) ?_
  refine s_pure (.bool (!(decide (1 ≤ (way.length : Int) ∧ (way.length : Int) ≤ 16)))) (fun _ q => q) ?_
  refine s_pure (.bool (!(decide (1 ≤ (way.length : Int) ∧ (way.length : Int) ≤ 16)))) (fun _ q => q) ?_
  refine s_splitT rfl (fun c5 => ?_) (fun c5 => ?_)
  ·
    refine s_pass rfl ?_
    refine s_pass rfl ?_
    refine s_pass rfl ?_
    refine s_pass rfl ?_
    refine s_pass rfl ?_
    refine s_pass rfl ?_
    refine s_pass rfl ?_
    refine s_pure (.bool true) (fun _ q => q) ?_
    refine s_nil ?_
    refine p_seqN ?_
    refine v_condY rfl rfl ?_
    refine v_seq ?_
    refine v_ops ?_
    refine s_pure (.bool false) (fun _ q => q) ?_
    refine s_nil ?_
    refine p_seqN ?_
    refine v_ret ?_
    refine p_seqR ?_
    refine p_ret [.bool false] (.bool false) (fun _ q => q) rfl ?_
    have ho : (decide (WayOk n way)) = false := by first | exact way_bad1 (by omega) | exact way_bad2 (by assumption) | exact way_bad (by assumption : way[k]? = some xo__) (fun hp => absurd (by assumption) hp.1) | exact way_bad (by assumption : way[k]? = some xo__) (fun hp => by (have := hp.2 (by omega) _ (by assumption : way[k - 1]? = some x__)); omega) | exact way_end (by omega) (by assumption) hw (by assumption)
    exact ⟨by first | (rw [ho]; done) | rfl, E3⟩
  ·
    have c5 := Classical.not_not.1 c5
    refine s_run rfl ?_
    refine s_pure v_way (fun _ q => q) ?_
    refine s_run rfl ?_
    refine s_pure (.pointer (some ⟨b1, 0, none⟩)) (fun _ q => q) ?_
    refine s_run rfl ?_
    refine s_load v_n_towers (fun _ q => bxb1.load rfl q) ?_
    refine s_run rfl ?_
    refine s_pure (.int .i64 (n.towers.length : Int)) (fun _ q => s_n_towers.lenVC q) ?_
    refine s_run rfl ?_
    refine s_pure (.int .i64 ((n.towers.length : Int) - 1)) (fun _ q => ArithVC.mk (by omega) q) ?_
    refine s_run rfl ?_
    have f6 := (s_way.ext eh2)
    refine s_callS [v_way, .int .i64 0, .int .i64 ((n.towers.length : Int) - 1)] (.bool (decide (AllIn 0 ((n.towers.length : Int) - 1) way))) rfl (allWithin_ok v_way way 0 ((n.towers.length : Int) - 1) _ f6) ?_
    refine s_run rfl ?_
    refine s_pure (.bool (!(decide (AllIn 0 ((n.towers.length : Int) - 1) way)))) (fun _ q => q) ?_
    refine s_pure (.bool (!(decide (AllIn 0 ((n.towers.length : Int) - 1) way)))) (fun _ q => q) ?_
    refine s_nil ?_
    refine p_seqN ?_
    refine v_cond rfl (fun c7 => ?_) (fun c7 => ?_)
    ·
      refine v_seq ?_
      refine v_ops ?_
      refine s_pure (.bool false) (fun _ q => q) ?_
      refine s_nil ?_
      refine p_seqN ?_
      refine v_ret ?_
      refine p_seqR ?_
      refine p_ret [.bool false] (.bool false) (fun _ q => q) rfl ?_
      have ho : (decide (WayOk n way)) = false := by first | exact way_bad1 (by omega) | exact way_bad2 (by assumption) | exact way_bad (by assumption : way[k]? = some xo__) (fun hp => absurd (by assumption) hp.1) | exact way_bad (by assumption : way[k]? = some xo__) (fun hp => by (have := hp.2 (by omega) _ (by assumption : way[k - 1]? = some x__)); omega) | exact way_end (by omega) (by assumption) hw (by assumption)
      exact ⟨by first | (rw [ho]; done) | rfl, E3⟩
    ·
      have c7 := Classical.not_not.1 c7
      refine v_skip ?_
      refine p_seqN ?_
      refine v_seq ?_
      refine v_seq ?_
      refine v_ops ?_
      refine s_pure v_way (fun _ q => q) ?_
      refine s_pure (.int .i64 (way.length : Int)) (fun _ q => f6.lenVC q) ?_
      refine s_pure (.int .i64 0) (fun _ q => q) ?_
      refine s_nil ?_
      refine p_seqN ?_
      refine v_block ?_
      refine v_loop1 (α := Nat) (fun k => [(1, v_way), (2, .pointer (some ⟨b1, 0, none⟩)), (20, v_way), (21, .int .i64 (way.length : Int)), (22, .int .i64 (k : Int))]) (fun k hh => Ext h hh ∧ Bx hh b1 [v_n_towers, v_n_links] 32 ∧ k ≤ way.length ∧ WayTo n way k) (fun k => way.length - k) 0 ⟨rfl, rfl, rfl, rfl, rfl⟩ ⟨E3, bxb1, (by exact ⟨by omega, fun i x hi => by omega⟩)⟩ ?_
      rintro k R9 h8 ⟨Eh, bxb1, ⟨hk, hw⟩⟩
      have zEh := Eh.size
      have f10 := s_n_towers.ext Eh
      have f11 := s_n_links.ext Eh
      have f12 := s_way.ext Eh
      have lbb1 := bxb1.lt
      refine v_seq ?_
      refine v_ops ?_
      refine s_pure (.bool (decide ((k : Int) < (way.length : Int)))) (fun _ q => q) ?_
      refine s_nil ?_
      refine p_seqN ?_
      refine v_seq ?_
      refine v_cond rfl (fun c13 => ?_) (fun c13 => ?_)
      ·
        refine v_skip ?_
        refine p_seqN ?_
        refine v_seq ?_
        refine v_block ?_
        refine v_seq ?_
        refine v_ops ?_
        refine s_pure (.int .i64 (k : Int)) (fun _ q => q) ?_
        have hk14 : k < way.length := (by first | omega | (simp; omega))
        obtain ⟨x15, hx15⟩ : ∃ x, way[k]? = some x := ⟨_, List.getElem?_eq_getElem hk14⟩
        refine s_pure (.pointer (some ⟨sblk v_way, soff v_way + k * 1, none⟩)) (fun _ q => f12.idx (k := k) rfl hk14 q) ?_
        refine s_load (.int .i64 x15) (fun _ q => f12.load1 hx15 rfl q) ?_
        refine s_pure (.int .i64 (k : Int)) (fun _ q => q) ?_
        refine s_pure (.int .i64 x15) (fun _ q => q) ?_
        refine s_nil ?_
        refine p_seqN ?_
        refine v_seq ?_
        refine v_draw (DrawVC.hold ([b1]) ?_)
        refine d_pureT v_way (fun _ q => q) ?_
        refine d_pureT (.int .i64 (k : Int)) (fun _ q => q) ?_
        obtain ⟨r16, hqr16, s_r16, bk_r16⟩ := f12.slc (l := 0) (m := k) (by first | omega | (simp; omega)) (by first | omega | (simp; omega))
        simp only [List.drop_zero] at s_r16
        have lt_r16 := s_r16.lt
        refine d_pureT r16 (fun K q => hqr16 _ rfl none (some (.int .i64 (k : Int))) rfl ⟨_, _, rfl, rfl⟩ K q) ?_
        refine d_pureT (.int .i64 x15) (fun _ q => q) ?_
        refine d_eff ?_
        refine s_call [r16, .int .i64 x15] rfl (slices_Contains_Lint_int_ok r16 (way.take k) x15 _ s_r16) ?_
        rintro _ h17 ⟨rfl, eh17⟩
        have E18 := Eh.trans eh17
        have z19 := eh17.size
        have G20 := eh17
        refine s_nil ⟨fun _ x hx => G20.blk x (by simp at hx; omega), ?_⟩
        refine d_pureT (.bool (decide (x15 ∈ (way.take k)))) (fun _ q => q) ?_
        refine d_splitT rfl (fun c21 => ?_) (fun c21 => ?_)
        ·
          refine d_passT rfl ?_
          refine d_passT rfl ?_
          refine d_passT rfl ?_
          refine d_splitU rfl ?_
          refine d_passTU rfl ?_
          refine d_passTU rfl ?_
          refine d_passTU rfl ?_
          refine d_passTU rfl ?_
          refine d_passTU rfl ?_
          refine d_passTU rfl ?_
          refine d_passOU rfl ?_
          refine d_passOU rfl ?_
          refine d_passTU rfl ?_
          refine d_passT rfl ?_
          refine d_pureT (.bool true) (fun _ q => q) ?_
          refine d_done ?_
          refine p_seqN ?_
          refine v_condY rfl rfl ?_
          refine v_seq ?_
          refine v_ops ?_
          refine s_pure (.bool false) (fun _ q => q) ?_
          refine s_nil ?_
          refine p_seqN ?_
          refine v_ret ?_
          refine p_blkR ?_
          refine p_seqR ?_
          refine p_lpR ?_
          refine p_blkR ?_
          refine p_seqR ?_
          refine p_ret [.bool false] (.bool false) (fun _ q => q) rfl ?_
          have ho : (decide (WayOk n way)) = false := by first | exact way_bad1 (by omega) | exact way_bad2 (by assumption) | exact way_bad (by assumption : way[k]? = some x15) (fun hp => absurd (by assumption) hp.1) | exact way_bad (by assumption : way[k]? = some x15) (fun hp => by (have := hp.2 (by omega) _ (by assumption : way[k - 1]? = some x15)); omega) | exact way_end (by omega) (by assumption) hw (by assumption)
          exact ⟨by first | (rw [ho]; done) | rfl, E18⟩
        ·
          refine d_runT rfl ?_
          refine d_pureT (.int .i64 (k : Int)) (fun _ q => q) ?_
          refine d_runT rfl ?_
          refine d_pureT (.bool (decide ((k : Int) > 0))) (fun _ q => q) ?_
          refine d_runT rfl ?_
          refine d_pureT (.bool (decide ((k : Int) > 0))) (fun _ q => q) ?_
          refine d_splitT rfl (fun c22 => ?_) (fun c22 => ?_)
          ·
            refine d_runT rfl ?_
            refine d_pureT v_way (fun _ q => q) ?_
            refine d_runT rfl ?_
            refine d_pureT (.int .i64 (k : Int)) (fun _ q => q) ?_
            refine d_runT rfl ?_
            refine d_pureT (.int .i64 ((k : Int) - 1)) (fun _ q => ArithVC.mk (by omega) q) ?_
            refine d_runT rfl ?_
            have f23 := (f12.ext eh17)
            have hk24 : (k - 1) < way.length := (by first | omega | (simp; omega))
            obtain ⟨x25, hx25⟩ : ∃ x, way[(k - 1)]? = some x := ⟨_, List.getElem?_eq_getElem hk24⟩
            refine d_pureT (.pointer (some ⟨sblk v_way, soff v_way + (k - 1) * 1, none⟩)) (fun _ q => f23.idx (k := (k - 1)) (by omega) hk24 q) ?_
            refine d_runT rfl ?_
            refine d_pureT (.int .i64 x15) (fun _ q => q) ?_
            refine d_runT rfl ?_
            refine d_loadT (.agg #[v_n_towers, v_n_links]) (fun _ q => bxb1.takeA (by simp) rfl q) ?_
            refine d_runO rfl ?_
            refine d_loadO (.int .i64 x25) (fun _ q => f23.load1 hx25 rfl q) ?_
            refine d_runO rfl ?_
            refine d_eff ?_
            have f26 := (f10.ext eh17)
            have f27 := (f11.ext eh17)
            refine s_call [.agg #[v_n_towers, v_n_links], .int .i64 x25, .int .i64 x15] rfl (impl_linkIndex_ok n v_n_towers v_n_links x25 x15 _ f26 f27 hn) ?_
            rintro _ h28 ⟨rfl, eh28⟩
            have E29 := E18.trans eh28
            have z30 := eh28.size
            have G31 := G20.trans eh28
            refine s_nil ⟨fun hl => (by cases hl), ?_⟩
            refine d_runT rfl ?_
            refine d_pureT (.bool (decide ((lkI n x25 x15) < 0))) (fun _ q => q) ?_
            refine d_runT rfl ?_
            refine d_pureT (.bool (decide ((lkI n x25 x15) < 0))) (fun _ q => q) ?_
            refine d_pureT (.bool (decide ((lkI n x25 x15) < 0))) (fun _ q => q) ?_
            refine d_done ?_
            refine p_seqN ?_
            refine v_cond rfl (fun c32 => ?_) (fun c32 => ?_)
            ·
              refine v_seq ?_
              refine v_ops ?_
              refine s_pure (.bool false) (fun _ q => q) ?_
              refine s_nil ?_
              refine p_seqN ?_
              refine v_ret ?_
              refine p_blkR ?_
              refine p_seqR ?_
              refine p_lpR ?_
              refine p_blkR ?_
              refine p_seqR ?_
              refine p_ret [.bool false] (.bool false) (fun _ q => q) rfl ?_
              have ho : (decide (WayOk n way)) = false := by first | exact way_bad1 (by omega) | exact way_bad2 (by assumption) | exact way_bad (by assumption : way[k]? = some x15) (fun hp => absurd (by assumption) hp.1) | exact way_bad (by assumption : way[k]? = some x15) (fun hp => by (have := hp.2 (by omega) _ (by assumption : way[k - 1]? = some x25)); omega) | exact way_end (by omega) (by assumption) hw (by assumption)
              exact ⟨by first | (rw [ho]; done) | rfl, E29⟩
            ·
              refine v_skip ?_
              refine p_blkN ?_
              refine p_seqN ?_
              refine v_ops ?_
              refine s_pure (.int .i64 ((k : Int) + 1)) (fun _ q => ArithVC.mk (by omega) q) ?_
              refine s_pure (.int .i64 ((k : Int) + 1)) (fun _ q => q) ?_
              refine s_nil ?_
              have f33 := ((bxb1.ext eh17).ext eh28)
              exact p_lpN ⟨k + 1, ⟨rfl, rfl, rfl, rfl, rfl⟩, ⟨E29, f33, (by exact ⟨by omega, way_snoc hw (by assumption) (by assumption) (fun h0 y hy => by first | omega | ((obtain rfl := Option.some.inj (hy.symm.trans (by assumption : way[k - 1]? = some x25))); omega))⟩)⟩, by omega⟩
          ·
            refine d_passT rfl ?_
            refine d_passT rfl ?_
            refine d_passT rfl ?_
            refine d_passT rfl ?_
            refine d_passT rfl ?_
            refine d_passT rfl ?_
            refine d_passO rfl ?_
            refine d_passO rfl ?_
            refine d_passT rfl ?_
            refine d_runT rfl ?_
            refine d_pureT (.bool false) (fun _ q => q) ?_
            refine d_pureT (.bool false) (fun _ q => q) ?_
            refine d_done ?_
            refine p_seqN ?_
            refine v_condN rfl (by simp) ?_
            refine v_skip ?_
            refine p_blkN ?_
            refine p_seqN ?_
            refine v_ops ?_
            refine s_pure (.int .i64 ((k : Int) + 1)) (fun _ q => ArithVC.mk (by omega) q) ?_
            refine s_pure (.int .i64 ((k : Int) + 1)) (fun _ q => q) ?_
            refine s_nil ?_
            have f34 := (bxb1.ext eh17)
            exact p_lpN ⟨k + 1, ⟨rfl, rfl, rfl, rfl, rfl⟩, ⟨E18, f34, (by exact ⟨by omega, way_snoc hw (by assumption) (by assumption) (fun h0 y hy => by first | omega | ((obtain rfl := Option.some.inj (hy.symm.trans (by assumption : way[k - 1]? = some x15))); omega))⟩)⟩, by omega⟩
      ·
        refine v_exit ?_
        refine p_seqX ?_
        refine p_lpX ?_
        refine p_blkX ?_
        refine p_seqN ?_
        refine v_seq ?_
        refine v_ops ?_
        refine s_pure (.bool true) (fun _ q => q) ?_
        refine s_nil ?_
        refine p_seqN ?_
        refine v_ret ?_
        refine p_ret [.bool true] (.bool true) (fun _ q => q) rfl ?_
        have ho : (decide (WayOk n way)) = true := by first | exact way_bad1 (by omega) | exact way_bad2 (by assumption) | exact way_bad (by assumption : way[k]? = some xo__) (fun hp => absurd (by assumption) hp.1) | exact way_bad (by assumption : way[k]? = some xo__) (fun hp => by (have := hp.2 (by omega) _ (by assumption : way[k - 1]? = some x__)); omega) | exact way_end (by omega) (by assumption) hw (by assumption)
        exact ⟨by first | (rw [ho]; done) | rfl, Eh⟩

set_option maxRecDepth 10000 in
set_option maxHeartbeats 4000000 in
theorem impl_WaitsAlong_ok (n : NetP) (v_n_towers : Value) (v_n_links : Value) (v_l : Value) (l : List FogD) (v_way : Value) (way : List Int) (t : Int) (h : Heap) (s_n_towers : Sl h v_n_towers n.towers) (s_n_links : Sl h v_n_links n.links) (s_l : Sl h v_l l) (s_way : Sl h v_way way) : Cn f_impl_WaitsAlong [.agg #[v_n_towers, v_n_links], v_l, v_way, .int .i64 t] h fun v h' => ∃ r0 : Value, v = .tuple #[r0, .bool ((waitsOf n l way t).2)] ∧ SlO h' r0 ((waitsOf n l way t).1) ∧ Fr h.size r0 ∧ Ext h h' := by
  have lt_n_towers := s_n_towers.lt
  have l63_n_towers := s_n_towers.len63
  have lt_n_links := s_n_links.lt
  have l63_n_links := s_n_links.len63
  have lt_l := s_l.lt
  have l63_l := s_l.len63
  have lt_way := s_way.lt
  have l63_way := s_way.len63
  refine calls_of r_impl_WaitsAlong ?_
  refine v_seq ?_
  refine v_ops ?_
  refine s_box [v_n_towers, v_n_links] rfl (fun h2 b1 hbb1 hzb1 eh2 bxb1 => ?_)
  have E3 := (Ext.refl h).trans eh2
  have z4 := eh2.size
  have lbb1 := bxb1.lt
  refine s_pure (.slice none 0 0) (fun _ q => q) ?_
  refine s_pure (.bool false) (fun _ q => q) ?_
  refine s_nil ?_
  refine p_seqN ?_
  refine v_seq ?_
  refine v_seq ?_
  refine v_ops ?_
  refine s_load (.agg #[v_n_towers, v_n_links]) (fun _ q => bxb1.loadA rfl q) ?_
  have f5 := (s_n_towers.ext eh2)
  have f6 := (s_n_links.ext eh2)
  refine s_call [.agg #[v_n_towers, v_n_links]] rfl (impl_IsNet_ok n v_n_towers v_n_links _ f5 f6) ?_
  rintro _ h7 ⟨rfl, eh7⟩
  have E8 := E3.trans eh7
  have z9 := eh7.size
  refine s_pure (.bool (!decide (NetOk n))) (fun _ q => q) ?_
  refine s_pure (.bool (!decide (NetOk n))) (fun _ q => q) ?_
  refine s_splitT rfl (fun c10 => ?_) (fun c10 => ?_)
  ·
    refine s_pass rfl ?_
    refine s_pass rfl ?_
    refine s_pass rfl ?_
    refine s_pass rfl ?_
    refine s_pure (.bool true) (fun _ q => q) ?_
    refine s_pure (.bool true) (fun _ q => q) ?_
    refine s_splitY rfl rfl ?_
    refine s_pass rfl ?_
    refine s_pass rfl ?_
    refine s_pass rfl ?_
    refine s_pure (.bool true) (fun _ q => q) ?_
    refine s_pure (.bool true) (fun _ q => q) ?_
    refine s_splitY rfl rfl ?_
    refine s_pass rfl ?_
    refine s_pass rfl ?_
    refine s_pass rfl ?_
    refine s_pass rfl ?_
    refine s_pure (.bool true) (fun _ q => q) ?_
    refine s_nil ?_
    refine p_seqN ?_
    refine v_condY rfl rfl ?_
    refine v_seq ?_
    refine v_ops ?_
    refine s_pure (.slice none 0 0) (fun _ q => q) ?_
    refine s_pure (.bool false) (fun _ q => q) ?_
    refine s_nil ?_
    refine p_seqN ?_
    refine v_ret ?_
    refine p_seqR ?_
    refine p_ret [.slice none 0 0, .bool false] (.tuple #[.slice none 0 0, .bool false]) (fun _ q => q) rfl ?_
    have ho : (waitsOf n l way t) = ([], false) := by first | exact waits_end hA hs (by omega) | exact waits_no (fun h => by first | exact (by assumption : ¬ NetOk n) h.hn | exact (by assumption : ¬ FogsOk _ _) h.hf | exact (by assumption : ¬ (0 ≤ t ∧ _)) h.ht | exact (by assumption : ¬ WayOk n way) h.hw)
    exact ⟨(.slice none 0 0), by first | (rw [ho]; done) | rfl, sl_eq (SlX.nil (α := Int) true _) (congrArg (fun o => o.1) ho).symm, Fr.nil _, E8⟩
  ·
    have c10 := Classical.not_not.1 c10
    refine s_run rfl ?_
    have f11 := (bxb1.ext eh7)
    refine s_load (.agg #[v_n_towers, v_n_links]) (fun _ q => f11.loadA rfl q) ?_
    refine s_run rfl ?_
    refine s_pure v_l (fun _ q => q) ?_
    refine s_run rfl ?_
    have f12 := (f5.ext eh7)
    have f13 := (f6.ext eh7)
    have f14 := ((s_l.ext eh2).ext eh7)
    refine s_call [.agg #[v_n_towers, v_n_links], v_l] rfl (impl_areFogs_ok n v_n_towers v_n_links v_l l _ f12 f13 f14) ?_
    rintro _ h15 ⟨rfl, eh15⟩
    have E16 := E8.trans eh15
    have z17 := eh15.size
    refine s_run rfl ?_
    refine s_pure (.bool (!(decide (FogsOk n.links.length l)))) (fun _ q => q) ?_
    refine s_pure (.bool (!(decide (FogsOk n.links.length l)))) (fun _ q => q) ?_
    refine s_pure (.bool (!(decide (FogsOk n.links.length l)))) (fun _ q => q) ?_
    refine s_splitT rfl (fun c18 => ?_) (fun c18 => ?_)
    ·
      refine s_pass rfl ?_
      refine s_pass rfl ?_
      refine s_pass rfl ?_
      refine s_pure (.bool true) (fun _ q => q) ?_
      refine s_pure (.bool true) (fun _ q => q) ?_
      refine s_splitY rfl rfl ?_
      refine s_pass rfl ?_
      refine s_pass rfl ?_
      refine s_pass rfl ?_
      refine s_pass rfl ?_
      refine s_pure (.bool true) (fun _ q => q) ?_
      refine s_nil ?_
      refine p_seqN ?_
      refine v_condY rfl rfl ?_
      refine v_seq ?_
      refine v_ops ?_
      refine s_pure (.slice none 0 0) (fun _ q => q) ?_
      refine s_pure (.bool false) (fun _ q => q) ?_
      refine s_nil ?_
      refine p_seqN ?_
      refine v_ret ?_
      refine p_seqR ?_
      refine p_ret [.slice none 0 0, .bool false] (.tuple #[.slice none 0 0, .bool false]) (fun _ q => q) rfl ?_
      have ho : (waitsOf n l way t) = ([], false) := by first | exact waits_end hA hs (by omega) | exact waits_no (fun h => by first | exact (by assumption : ¬ NetOk n) h.hn | exact (by assumption : ¬ FogsOk _ _) h.hf | exact (by assumption : ¬ (0 ≤ t ∧ _)) h.ht | exact (by assumption : ¬ WayOk n way) h.hw)
      exact ⟨(.slice none 0 0), by first | (rw [ho]; done) | rfl, sl_eq (SlX.nil (α := Int) true _) (congrArg (fun o => o.1) ho).symm, Fr.nil _, E16⟩
    ·
      have c18 := Classical.not_not.1 c18
      refine s_run rfl ?_
      refine s_pure (.int .i64 t) (fun _ q => q) ?_
      refine s_run rfl ?_
      refine s_callS [.int .i64 t, .int .i64 0, .int .i64 10000] (.bool (decide (0 ≤ t ∧ t ≤ 10000))) rfl (within_ok t 0 10000 _ ) ?_
      refine s_run rfl ?_
      refine s_pure (.bool (!(decide (0 ≤ t ∧ t ≤ 10000)))) (fun _ q => q) ?_
      refine s_pure (.bool (!(decide (0 ≤ t ∧ t ≤ 10000)))) (fun _ q => q) ?_
      refine s_pure (.bool (!(decide (0 ≤ t ∧ t ≤ 10000)))) (fun _ q => q) ?_
      refine s_splitT rfl (fun c19 => ?_) (fun c19 => ?_)
      ·
        refine s_pass rfl ?_
        refine s_pass rfl ?_
        refine s_pass rfl ?_
        refine s_pass rfl ?_
        refine s_pure (.bool true) (fun _ q => q) ?_
        refine s_nil ?_
        refine p_seqN ?_
        refine v_condY rfl rfl ?_
        refine v_seq ?_
        refine v_ops ?_
        refine s_pure (.slice none 0 0) (fun _ q => q) ?_
        refine s_pure (.bool false) (fun _ q => q) ?_
        refine s_nil ?_
        refine p_seqN ?_
        refine v_ret ?_
        refine p_seqR ?_
        refine p_ret [.slice none 0 0, .bool false] (.tuple #[.slice none 0 0, .bool false]) (fun _ q => q) rfl ?_
        have ho : (waitsOf n l way t) = ([], false) := by first | exact waits_end hA hs (by omega) | exact waits_no (fun h => by first | exact (by assumption : ¬ NetOk n) h.hn | exact (by assumption : ¬ FogsOk _ _) h.hf | exact (by assumption : ¬ (0 ≤ t ∧ _)) h.ht | exact (by assumption : ¬ WayOk n way) h.hw)
        exact ⟨(.slice none 0 0), by first | (rw [ho]; done) | rfl, sl_eq (SlX.nil (α := Int) true _) (congrArg (fun o => o.1) ho).symm, Fr.nil _, E16⟩
      ·
        have c19 := Classical.not_not.1 c19
        refine s_run rfl ?_
        have f20 := (f11.ext eh15)
        refine s_load (.agg #[v_n_towers, v_n_links]) (fun _ q => f20.loadA rfl q) ?_
        refine s_run rfl ?_
        refine s_pure v_way (fun _ q => q) ?_
        refine s_run rfl ?_
        have f21 := (f12.ext eh15)
        have f22 := (f13.ext eh15)
        have f23 := (((s_way.ext eh2).ext eh7).ext eh15)
        refine s_call [.agg #[v_n_towers, v_n_links], v_way] rfl (impl_isWay_ok n v_n_towers v_n_links v_way way _ f21 f22 f23 (by assumption)) ?_
        rintro _ h24 ⟨rfl, eh24⟩
        have E25 := E16.trans eh24
        have z26 := eh24.size
        refine s_run rfl ?_
        refine s_pure (.bool (!(decide (WayOk n way)))) (fun _ q => q) ?_
        refine s_pure (.bool (!(decide (WayOk n way)))) (fun _ q => q) ?_
        refine s_nil ?_
        refine p_seqN ?_
        refine v_cond rfl (fun c27 => ?_) (fun c27 => ?_)
        ·
          refine v_seq ?_
          refine v_ops ?_
          refine s_pure (.slice none 0 0) (fun _ q => q) ?_
          refine s_pure (.bool false) (fun _ q => q) ?_
          refine s_nil ?_
          refine p_seqN ?_
          refine v_ret ?_
          refine p_seqR ?_
          refine p_ret [.slice none 0 0, .bool false] (.tuple #[.slice none 0 0, .bool false]) (fun _ q => q) rfl ?_
          have ho : (waitsOf n l way t) = ([], false) := by first | exact waits_end hA hs (by omega) | exact waits_no (fun h => by first | exact (by assumption : ¬ NetOk n) h.hn | exact (by assumption : ¬ FogsOk _ _) h.hf | exact (by assumption : ¬ (0 ≤ t ∧ _)) h.ht | exact (by assumption : ¬ WayOk n way) h.hw)
          exact ⟨(.slice none 0 0), by first | (rw [ho]; done) | rfl, sl_eq (SlX.nil (α := Int) true _) (congrArg (fun o => o.1) ho).symm, Fr.nil _, E25⟩
        ·
          have c27 := Classical.not_not.1 c27
          refine v_skip ?_
          refine p_seqN ?_
          refine v_seq ?_
          refine v_ops ?_
          refine s_pure (.slice none 0 0) (fun _ q => q) ?_
          refine s_nil ?_
          refine p_seqN ?_
          refine v_seq ?_
          refine v_seq ?_
          refine v_ops ?_
          refine s_pure v_way (fun _ q => q) ?_
          refine s_pure (.int .i64 (way.length : Int)) (fun _ q => f23.lenVC q) ?_
          refine s_pure (.int .i64 ((way.length : Int) - 1)) (fun _ q => ArithVC.mk (by omega) q) ?_
          refine s_pure (.int .i64 0) (fun _ q => q) ?_
          refine s_nil ?_
          refine p_seqN ?_
          refine v_block ?_
          have hA : AlongAsk n l way t := ⟨by assumption, by assumption, by assumption, by assumption⟩
          have hwl := hA.hw.len
          have f29 := (f20.ext eh24)
          refine v_loop4 (α := Nat) (β := Int) (γ := List Int) (δ := Value) (fun k u ws w => [(1, v_l), (2, v_way), (3, .int .i64 u), (4, .pointer (some ⟨b1, 0, none⟩)), (10, w), (36, .int .i64 ((way.length : Int) - 1)), (37, .int .i64 (k : Int))]) (fun k u ws w hh => Ext h hh ∧ Bx hh b1 [v_n_towers, v_n_links] 32 ∧ SlO hh w ws ∧ Fr h.size w ∧ b1 ∉ blks w ∧ k ≤ (way.length - 1) ∧ (u, ws) = alTo n l ((linksOf n way).take k) t) (fun k u ws w => (way.length - 1) - k) 0 t [] (.slice none 0 0) ⟨rfl, rfl, rfl, rfl, rfl, rfl, rfl⟩ ⟨E25, f29, (sl_eq (SlX.nil (α := Int) true h24) (by simp)), (Fr.nil _), (by simp [blks, fpts]), (by simp [alTo])⟩ ?_
          rintro k u ws w R30 h28 ⟨Eh, bxb1, s_w, fr_w, np_b1_w, ⟨hk, hs⟩⟩
          have zEh := Eh.size
          have f31 := s_n_towers.ext Eh
          have f32 := s_n_links.ext Eh
          have f33 := s_l.ext Eh
          have f34 := s_way.ext Eh
          have lbb1 := bxb1.lt
          have lt_w := s_w.lt
          have hub := al_bd2 hA hs (by omega)
          refine v_seq ?_
          refine v_ops ?_
          refine s_pure (.bool (decide ((k : Int) < ((way.length : Int) - 1)))) (fun _ q => q) ?_
          refine s_nil ?_
          refine p_seqN ?_
          refine v_seq ?_
          refine v_cond rfl (fun c35 => ?_) (fun c35 => ?_)
          ·
            refine v_skip ?_
            refine p_seqN ?_
            refine v_seq ?_
            refine v_block ?_
            refine v_seq ?_
            refine v_ops ?_
            refine s_pure (.int .i64 (k : Int)) (fun _ q => q) ?_
            refine s_pure (.int .i64 (k : Int)) (fun _ q => q) ?_
            refine s_nil ?_
            refine p_seqN ?_
            refine v_seq ?_
            refine v_draw (DrawVC.hold ([b1] ++ blks v_way) ?_)
            refine d_pureT v_way (fun _ q => q) ?_
            refine d_pureT (.int .i64 (k : Int)) (fun _ q => q) ?_
            have hk36 : k < way.length := (by first | omega | (simp; omega))
            obtain ⟨x37, hx37⟩ : ∃ x, way[k]? = some x := ⟨_, List.getElem?_eq_getElem hk36⟩
            refine d_pureT (.pointer (some ⟨sblk v_way, soff v_way + k * 1, none⟩)) (fun _ q => f34.idx (k := k) rfl hk36 q) ?_
            refine d_pureT v_way (fun _ q => q) ?_
            refine d_pureT (.int .i64 (k : Int)) (fun _ q => q) ?_
            refine d_pureT (.int .i64 ((k : Int) + 1)) (fun _ q => ArithVC.mk (by omega) q) ?_
            have hk38 : (k + 1) < way.length := (by first | omega | (simp; omega))
            obtain ⟨x39, hx39⟩ : ∃ x, way[(k + 1)]? = some x := ⟨_, List.getElem?_eq_getElem hk38⟩
            refine d_pureT (.pointer (some ⟨sblk v_way, soff v_way + (k + 1) * 1, none⟩)) (fun _ q => f34.idx (k := (k + 1)) rfl hk38 q) ?_
            refine d_loadT (.agg #[v_n_towers, v_n_links]) (fun _ q => bxb1.takeA (by simp) rfl q) ?_
            refine d_loadT (.int .i64 x37) (fun _ q => f34.take1 (fun b hb => by simp [hb]) hx37 rfl q) ?_
            refine d_loadO (.int .i64 x39) (fun _ q => f34.load1 hx39 rfl q) ?_
            refine d_eff ?_
            refine s_call [.agg #[v_n_towers, v_n_links], .int .i64 x37, .int .i64 x39] rfl (impl_linkIndex_ok n v_n_towers v_n_links x37 x39 _ f31 f32 hA.hn) ?_
            rintro _ h40 ⟨rfl, eh40⟩
            have E41 := Eh.trans eh40
            have z42 := eh40.size
            have G43 := eh40
            refine s_nil ⟨fun hl => (by cases hl), ?_⟩
            refine d_pureT (.int .i64 (lkI n x37 x39)) (fun _ q => q) ?_
            refine d_done ?_
            refine p_seqN ?_
            refine v_seq ?_
            refine v_ops ?_
            have f44 := (bxb1.ext eh40)
            refine s_load (.agg #[v_n_towers, v_n_links]) (fun _ q => f44.loadA rfl q) ?_
            refine s_pure v_l (fun _ q => q) ?_
            refine s_pure (.int .i64 (lkI n x37 x39)) (fun _ q => q) ?_
            refine s_pure (.int .i64 u) (fun _ q => q) ?_
            have f45 := (f31.ext eh40)
            have f46 := (f32.ext eh40)
            have f47 := (f33.ext eh40)
            refine s_call [.agg #[v_n_towers, v_n_links], v_l, .int .i64 (lkI n x37 x39), .int .i64 u] rfl (impl_goOver_ok n v_n_towers v_n_links v_l l (lkI n x37 x39) u _ f45 f46 f47 _ hA.hn hA.hf (by (have hw1 := al_wide (u := u) hA (by assumption : way[k]? = some _) (by assumption : way[k + 1]? = some _) (by omega)); omega) (by omega)) ?_
            rintro _ h48 ⟨rfl, eh48⟩
            have E49 := E41.trans eh48
            have z50 := eh48.size
            refine s_pure (.int .i64 (over l (lkI n x37 x39) (lk n (lkI n x37 x39)) u)) (fun _ q => q) ?_
            refine s_nil ?_
            refine p_seqN ?_
            refine v_seq ?_
            refine v_ops ?_
            refine s_pure w (fun _ q => q) ?_
            refine s_pure (.int .i64 (over l (lkI n x37 x39) (lk n (lkI n x37 x39)) u)) (fun _ q => q) ?_
            refine s_pure (.int .i64 u) (fun _ q => q) ?_
            refine s_pure (.int .i64 ((over l (lkI n x37 x39) (lk n (lkI n x37 x39)) u) - u)) (fun _ q => ArithVC.mk (by (have hw1 := al_wide (u := u) hA (by assumption : way[k]? = some _) (by assumption : way[k + 1]? = some _) (by omega)); omega) q) ?_
            refine s_pure (.pointer (some ⟨b1, 1, none⟩)) (fun _ q => q) ?_
            have f51 := (f44.ext eh48)
            refine s_load v_n_links (fun _ q => f51.load rfl q) ?_
            refine s_pure (.int .i64 (lkI n x37 x39)) (fun _ q => q) ?_
            have f52 := (f46.ext eh48)
            have hk53 : ((lkI n x37 x39)).toNat < n.links.length := (by (have hw1 := al_wide (u := u) hA (by assumption : way[k]? = some _) (by assumption : way[k + 1]? = some _) (by omega)); omega)
            obtain ⟨x54, hx54⟩ : ∃ x, n.links[((lkI n x37 x39)).toNat]? = some x := ⟨_, List.getElem?_eq_getElem hk53⟩
            refine s_pure (.pointer (some ⟨sblk v_n_links, soff v_n_links + (((lkI n x37 x39)).toNat) * 3, none⟩)) (fun _ q => f52.idx (k := ((lkI n x37 x39)).toNat) (by (have hw1 := al_wide (u := u) hA (by assumption : way[k]? = some _) (by assumption : way[k + 1]? = some _) (by omega)); omega) hk53 q) ?_
            refine s_pure (.pointer (some ⟨sblk v_n_links, soff v_n_links + (((lkI n x37 x39)).toNat) * 3 + 2, none⟩)) (fun _ q => q) ?_
            refine s_load (.int .i64 x54.delay) (fun _ q => f52.load hx54 (j := 2) rfl rfl q) ?_
            refine s_pure (.int .i64 (((over l (lkI n x37 x39) (lk n (lkI n x37 x39)) u) - u) - x54.delay)) (fun _ q => ArithVC.mk (by (have hw1 := al_wide (u := u) hA (by assumption : way[k]? = some _) (by assumption : way[k + 1]? = some _) (by omega)); (have hq := hA.hn.at (by assumption : n.links[_]? = some _)); omega) q) ?_
            refine s_row (α := Int) [(((over l (lkI n x37 x39) (lk n (lkI n x37 x39)) u) - u) - x54.delay)] (fun _ q => seg_i rfl (seg_nil q)) rfl (by simp [maxLen]) (fun r55 h56 eh56 zh56 s_r55 fr_r55 => ?_)
            have E57 := E49.trans eh56
            have z58 := eh56.size
            have lt_r55 := s_r55.lt
            have f59 := (((s_w.ext eh40).ext eh48).ext eh56)
            refine s_app f59 s_r55 rfl rfl rfl (by simp [maxLen]; omega) (by simp; omega) (fun r60 h61 mh61 zh61 s_r60 ab_r60 => ?_)
            have E62 := E57.mod mh61 (fun b hb => by have := fr_w b hb; omega)
            have fr_r60 := fr_w.app ab_r60 (by omega)
            have np63 : b1 ∉ blks r60 := fun hc => (ab_r60 _ hc).elim np_b1_w (fun hc => by omega)
            have np64 : ∀ b ∈ blks r55, b ∉ blks r60 := fun b hb hc => (ab_r60 _ hc).elim (((fun b hb hc => by have := fr_r55 b hb; have := lt_w b hc; omega) : ∀ b ∈ blks r55, b ∉ blks w) b hb) (fun hc => by have := lt_r55 b hb; omega)
            have lt_r60 := s_r60.lt
            refine s_pure r60 (fun _ q => q) ?_
            refine s_nil ?_
            refine p_seqN ?_
            refine v_ops ?_
            refine s_pure (.int .i64 (over l (lkI n x37 x39) (lk n (lkI n x37 x39)) u)) (fun _ q => q) ?_
            refine s_pure (.int .i64 (over l (lkI n x37 x39) (lk n (lkI n x37 x39)) u)) (fun _ q => q) ?_
            refine s_nil ?_
            refine p_blkN ?_
            refine p_seqN ?_
            refine v_ops ?_
            refine s_pure (.int .i64 ((k : Int) + 1)) (fun _ q => ArithVC.mk (by omega) q) ?_
            refine s_pure (.int .i64 ((k : Int) + 1)) (fun _ q => q) ?_
            refine s_nil ?_
            have f65 := ((f51.ext eh56).mod mh61 np_b1_w)
            exact p_lpN ⟨k + 1, (over l (lkI n x37 x39) (lk n (lkI n x37 x39)) u), (ws ++ [(((over l (lkI n x37 x39) (lk n (lkI n x37 x39)) u) - u) - x54.delay)]), r60, ⟨rfl, rfl, rfl, rfl, rfl, rfl, rfl⟩, ⟨E62, f65, (sl_eq s_r60 (by simp)), (fr_r60.mono (by omega)), np63, (by exact ⟨by omega, al_step hA hs (by assumption : way[k]? = some _) (by assumption : way[k + 1]? = some _) (by assumption)⟩)⟩, by omega⟩
          ·
            refine v_exit ?_
            refine p_seqX ?_
            refine p_lpX ?_
            refine p_blkX ?_
            refine p_seqN ?_
            refine v_seq ?_
            refine v_ops ?_
            refine s_pure w (fun _ q => q) ?_
            refine s_pure w (fun _ q => q) ?_
            refine s_pure (.bool true) (fun _ q => q) ?_
            refine s_nil ?_
            refine p_seqN ?_
            refine v_ret ?_
            refine p_ret [w, .bool true] (.tuple #[w, .bool true]) (fun _ q => q) rfl ?_
            have ho : (waitsOf n l way t) = (ws, true) := by first | exact waits_end hA hs (by omega) | exact waits_no (fun h => by first | exact (by assumption : ¬ NetOk n) h.hn | exact (by assumption : ¬ FogsOk _ _) h.hf | exact (by assumption : ¬ (0 ≤ t ∧ _)) h.ht | exact (by assumption : ¬ WayOk n way) h.hw)
            exact ⟨w, by first | (rw [ho]; done) | rfl, sl_eq s_w (congrArg (fun o => o.1) ho).symm, fr_w.mono (by omega), Eh⟩

set_option maxRecDepth 10000 in
set_option maxHeartbeats 4000000 in
theorem impl_ArrivalAlong_ok (n : NetP) (v_n_towers : Value) (v_n_links : Value) (v_l : Value) (l : List FogD) (v_way : Value) (way : List Int) (t : Int) (h : Heap) (s_n_towers : Sl h v_n_towers n.towers) (s_n_links : Sl h v_n_links n.links) (s_l : Sl h v_l l) (s_way : Sl h v_way way) : Cn f_impl_ArrivalAlong [.agg #[v_n_towers, v_n_links], v_l, v_way, .int .i64 t] h fun v h' => v = .tuple #[.int .i64 ((arrivOf n l way t).1), .bool ((arrivOf n l way t).2)] ∧ Ext h h' := by
  have lt_n_towers := s_n_towers.lt
  have l63_n_towers := s_n_towers.len63
  have lt_n_links := s_n_links.lt
  have l63_n_links := s_n_links.len63
  have lt_l := s_l.lt
  have l63_l := s_l.len63
  have lt_way := s_way.lt
  have l63_way := s_way.len63
  refine calls_of r_impl_ArrivalAlong ?_
  refine v_seq ?_
  refine v_ops ?_
  refine s_box [v_n_towers, v_n_links] rfl (fun h2 b1 hbb1 hzb1 eh2 bxb1 => ?_)
  have E3 := (Ext.refl h).trans eh2
  have z4 := eh2.size
  have lbb1 := bxb1.lt
  refine s_pure (.int .i64 0) (fun _ q => q) ?_
  refine s_pure (.bool false) (fun _ q => q) ?_
  refine s_nil ?_
  refine p_seqN ?_
  refine v_seq ?_
  refine v_ops ?_
  refine s_load (.agg #[v_n_towers, v_n_links]) (fun _ q => bxb1.loadA rfl q) ?_
  refine s_pure v_l (fun _ q => q) ?_
  refine s_pure v_way (fun _ q => q) ?_
  refine s_pure (.int .i64 t) (fun _ q => q) ?_
  have f5 := (s_n_towers.ext eh2)
  have f6 := (s_n_links.ext eh2)
  have f7 := (s_l.ext eh2)
  have f8 := (s_way.ext eh2)
  refine s_call [.agg #[v_n_towers, v_n_links], v_l, v_way, .int .i64 t] rfl (impl_WaitsAlong_ok n v_n_towers v_n_links v_l l v_way way t _ f5 f6 f7 f8) ?_
  rintro _ h10 ⟨r9, rfl, s_r9, fr_r9, eh10⟩
  have E11 := E3.trans eh10
  have z12 := eh10.size
  have lt_r9 := s_r9.lt
  refine s_pure (.tuple #[r9, .bool ((waitsOf n l way t).2)]) (fun _ q => q) ?_
  refine s_pure r9 (fun _ q => q) ?_
  refine s_pure (.bool ((waitsOf n l way t).2)) (fun _ q => q) ?_
  refine s_pure r9 (fun _ q => q) ?_
  refine s_pure (.bool ((waitsOf n l way t).2)) (fun _ q => q) ?_
  refine s_nil ?_
  refine p_seqN ?_
  refine v_seq ?_
  refine v_seq ?_
  refine v_ops ?_
  refine s_pure (.bool ((waitsOf n l way t).2)) (fun _ q => q) ?_
  refine s_pure (.bool (!(waitsOf n l way t).2)) (fun _ q => q) ?_
  refine s_nil ?_
  refine p_seqN ?_
  refine v_cond rfl (fun c13 => ?_) (fun c13 => ?_)
  ·
    refine v_seq ?_
    refine v_ops ?_
    refine s_pure (.int .i64 0) (fun _ q => q) ?_
    refine s_pure (.bool false) (fun _ q => q) ?_
    refine s_nil ?_
    refine p_seqN ?_
    refine v_ret ?_
    refine p_seqR ?_
    refine p_ret [.int .i64 0, .bool false] (.tuple #[.int .i64 0, .bool false]) (fun _ q => q) rfl ?_
    have ho : (arrivOf n l way t) = (0, false) := by first | exact arriv_end hA hu (by omega) | exact arriv_no (by assumption)
    exact ⟨by first | (rw [ho]; done) | rfl, E11⟩
  ·
    have c13 := Classical.not_not.1 c13
    refine v_skip ?_
    refine p_seqN ?_
    refine v_seq ?_
    refine v_seq ?_
    refine v_ops ?_
    refine s_pure r9 (fun _ q => q) ?_
    refine s_pure (.int .i64 (((waitsOf n l way t).1).length : Int)) (fun _ q => s_r9.lenVC q) ?_
    refine s_pure (.int .i64 0) (fun _ q => q) ?_
    refine s_nil ?_
    refine p_seqN ?_
    refine v_block ?_
    have hA := along_ask (by assumption : (waitsOf n l way t).2 = true)
    have hwl := hA.hw.len
    have hll : (waitsOf n l way t).1.length = way.length - 1 := by rw [waitsOf, along_yes hA]; simp [alTo_len, linksOf_len]
    have f15 := (bxb1.ext eh10)
    refine v_loop2 (α := Nat) (β := Int) (fun k u => [(2, v_way), (3, .int .i64 u), (4, .pointer (some ⟨b1, 0, none⟩)), (24, r9), (25, .int .i64 (((waitsOf n l way t).1).length : Int)), (26, .int .i64 (k : Int))]) (fun k u hh => Ext h hh ∧ Bx hh b1 [v_n_towers, v_n_links] 32 ∧ SlO hh r9 ((waitsOf n l way t).1) ∧ k ≤ (waitsOf n l way t).1.length ∧ u = (alTo n l ((linksOf n way).take k) t).1) (fun k u => (waitsOf n l way t).1.length - k) 0 t ⟨rfl, rfl, rfl, rfl, rfl, rfl⟩ ⟨E11, f15, s_r9, (by simp [alTo])⟩ ?_
    rintro k u R16 h14 ⟨Eh, bxb1, s_r9, ⟨hk, hu⟩⟩
    have zEh := Eh.size
    have f17 := s_n_towers.ext Eh
    have f18 := s_n_links.ext Eh
    have f19 := s_l.ext Eh
    have f20 := s_way.ext Eh
    have lbb1 := bxb1.lt
    have ltk_r9 := s_r9.lt
    have hub := al_bd hA (k := k) (by omega)
    rw [← hu] at hub
    refine v_seq ?_
    refine v_ops ?_
    refine s_pure (.bool (decide ((k : Int) < (((waitsOf n l way t).1).length : Int)))) (fun _ q => q) ?_
    refine s_nil ?_
    refine p_seqN ?_
    refine v_seq ?_
    refine v_cond rfl (fun c21 => ?_) (fun c21 => ?_)
    ·
      refine v_skip ?_
      refine p_seqN ?_
      refine v_seq ?_
      refine v_block ?_
      refine v_seq ?_
      refine v_ops ?_
      refine s_pure (.int .i64 (k : Int)) (fun _ q => q) ?_
      have hk22 : k < ((waitsOf n l way t).1).length := (by first | omega | (simp; omega))
      obtain ⟨x23, hx23⟩ : ∃ x, ((waitsOf n l way t).1)[k]? = some x := ⟨_, List.getElem?_eq_getElem hk22⟩
      refine s_pure (.pointer (some ⟨sblk r9, soff r9 + k * 1, none⟩)) (fun _ q => s_r9.idx (k := k) rfl hk22 q) ?_
      refine s_load (.int .i64 x23) (fun _ q => s_r9.load1 hx23 rfl q) ?_
      refine s_pure (.int .i64 (k : Int)) (fun _ q => q) ?_
      refine s_pure (.int .i64 x23) (fun _ q => q) ?_
      refine s_nil ?_
      refine p_seqN ?_
      refine v_draw (DrawVC.hold ([b1] ++ blks v_way) ?_)
      refine d_pureT (.int .i64 u) (fun _ q => q) ?_
      refine d_pureT (.int .i64 x23) (fun _ q => q) ?_
      refine d_pureT (.pointer (some ⟨b1, 1, none⟩)) (fun _ q => q) ?_
      refine d_pureT v_way (fun _ q => q) ?_
      refine d_pureT (.int .i64 (k : Int)) (fun _ q => q) ?_
      have hk24 : k < way.length := (by first | omega | (simp; omega))
      obtain ⟨x25, hx25⟩ : ∃ x, way[k]? = some x := ⟨_, List.getElem?_eq_getElem hk24⟩
      refine d_pureT (.pointer (some ⟨sblk v_way, soff v_way + k * 1, none⟩)) (fun _ q => f20.idx (k := k) rfl hk24 q) ?_
      refine d_pureT v_way (fun _ q => q) ?_
      refine d_pureT (.int .i64 (k : Int)) (fun _ q => q) ?_
      refine d_pureT (.int .i64 ((k : Int) + 1)) (fun _ q => ArithVC.mk (by omega) q) ?_
      have hk26 : (k + 1) < way.length := (by first | omega | (simp; omega))
      obtain ⟨x27, hx27⟩ : ∃ x, way[(k + 1)]? = some x := ⟨_, List.getElem?_eq_getElem hk26⟩
      refine d_pureT (.pointer (some ⟨sblk v_way, soff v_way + (k + 1) * 1, none⟩)) (fun _ q => f20.idx (k := (k + 1)) rfl hk26 q) ?_
      refine d_loadT v_n_links (fun _ q => bxb1.take (by simp) rfl q) ?_
      refine d_loadT (.agg #[v_n_towers, v_n_links]) (fun _ q => bxb1.takeA (by simp) rfl q) ?_
      refine d_loadT (.int .i64 x25) (fun _ q => f20.take1 (fun b hb => by simp [hb]) hx25 rfl q) ?_
      refine d_loadO (.int .i64 x27) (fun _ q => f20.load1 hx27 rfl q) ?_
      refine d_eff ?_
      refine s_call [.agg #[v_n_towers, v_n_links], .int .i64 x25, .int .i64 x27] rfl (impl_linkIndex_ok n v_n_towers v_n_links x25 x27 _ f17 f18 hA.hn) ?_
      rintro _ h28 ⟨rfl, eh28⟩
      have E29 := Eh.trans eh28
      have z30 := eh28.size
      have G31 := eh28
      refine s_nil ⟨fun _ x hx => G31.blk x (by simp at hx; rcases hx with hx | hx <;> first | omega | (have := lt_way x hx; omega)), ?_⟩
      have f32 := (f18.ext eh28)
      have hk33 : ((lkI n x25 x27)).toNat < n.links.length := (by (have hw1 := al_wide (u := u) hA (by assumption : way[k]? = some _) (by assumption : way[k + 1]? = some _) (by omega)); omega)
      obtain ⟨x34, hx34⟩ : ∃ x, n.links[((lkI n x25 x27)).toNat]? = some x := ⟨_, List.getElem?_eq_getElem hk33⟩
      refine d_pureT (.pointer (some ⟨sblk v_n_links, soff v_n_links + (((lkI n x25 x27)).toNat) * 3, none⟩)) (fun _ q => f32.idx (k := ((lkI n x25 x27)).toNat) (by (have hw1 := al_wide (u := u) hA (by assumption : way[k]? = some _) (by assumption : way[k + 1]? = some _) (by omega)); omega) hk33 q) ?_
      refine d_pureT (.pointer (some ⟨sblk v_n_links, soff v_n_links + (((lkI n x25 x27)).toNat) * 3 + 2, none⟩)) (fun _ q => q) ?_
      refine d_loadO (.int .i64 x34.delay) (fun _ q => f32.load hx34 (j := 2) rfl rfl q) ?_
      refine d_pureT (.int .i64 (x23 + x34.delay)) (fun _ q => ArithVC.mk (by (have hv := al_wait hA (by assumption : (waitsOf n l way t).1[k]? = some _) (by assumption : way[k]? = some _) (by assumption : way[k + 1]? = some _) (by assumption)); rw [← hu] at hv; (have hb2 := al_bd hA (k := k + 1) (by omega)); (have hq := hA.hn.at (by assumption : n.links[_]? = some _)); omega) q) ?_
      refine d_pureT (.int .i64 (u + (x23 + x34.delay))) (fun _ q => ArithVC.mk (by (have hv := al_wait hA (by assumption : (waitsOf n l way t).1[k]? = some _) (by assumption : way[k]? = some _) (by assumption : way[k + 1]? = some _) (by assumption)); rw [← hu] at hv; (have hb2 := al_bd hA (k := k + 1) (by omega)); (have hq := hA.hn.at (by assumption : n.links[_]? = some _)); omega) q) ?_
      refine d_pureT (.int .i64 (u + (x23 + x34.delay))) (fun _ q => q) ?_
      refine d_done ?_
      refine p_blkN ?_
      refine p_seqN ?_
      refine v_ops ?_
      refine s_pure (.int .i64 ((k : Int) + 1)) (fun _ q => ArithVC.mk (by omega) q) ?_
      refine s_pure (.int .i64 ((k : Int) + 1)) (fun _ q => q) ?_
      refine s_nil ?_
      have f35 := (bxb1.ext eh28)
      have f36 := (s_r9.ext eh28)
      exact p_lpN ⟨k + 1, (u + (x23 + x34.delay)), ⟨rfl, rfl, rfl, rfl, rfl, rfl⟩, ⟨E29, f35, f36, (by exact ⟨by omega, by (rw [al_wait hA (by assumption) (by assumption : way[k]? = some _) (by assumption : way[k + 1]? = some _) (by assumption), ← hu])⟩)⟩, by omega⟩
    ·
      refine v_exit ?_
      refine p_seqX ?_
      refine p_lpX ?_
      refine p_blkX ?_
      refine p_seqN ?_
      refine v_seq ?_
      refine v_ops ?_
      refine s_pure (.int .i64 u) (fun _ q => q) ?_
      refine s_pure (.int .i64 u) (fun _ q => q) ?_
      refine s_pure (.bool true) (fun _ q => q) ?_
      refine s_nil ?_
      refine p_seqN ?_
      refine v_ret ?_
      refine p_ret [.int .i64 u, .bool true] (.tuple #[.int .i64 u, .bool true]) (fun _ q => q) rfl ?_
      have ho : (arrivOf n l way t) = (u, true) := by first | exact arriv_end hA hu (by omega) | exact arriv_no (by assumption)
      exact ⟨by first | (rw [ho]; done) | rfl, Eh⟩

set_option maxRecDepth 10000 in
set_option maxHeartbeats 4000000 in
theorem spec_roLinks_ok (n : NetP) (v_n_towers : Value) (v_n_links : Value) (v_way : Value) (way : List Int) (h : Heap) (s_n_towers : Sl h v_n_towers n.towers) (s_n_links : Sl h v_n_links n.links) (s_way : Sl h v_way way) (hn : NetOk n) : Cn f_spec_roLinks [.agg #[v_n_towers, v_n_links], v_way] h fun v h' => ∃ r0 : Value, v = .tuple #[r0, .bool ((lnkOf n way).2)] ∧ SlO h' r0 ((lnkOf n way).1) ∧ Fr h.size r0 ∧ Ext h h' := by
  have lt_n_towers := s_n_towers.lt
  have l63_n_towers := s_n_towers.len63
  have lt_n_links := s_n_links.lt
  have l63_n_links := s_n_links.len63
  have lt_way := s_way.lt
  have l63_way := s_way.len63
  refine calls_of r_spec_roLinks ?_
  refine v_seq ?_
  refine v_ops ?_
  refine s_box [v_n_towers, v_n_links] rfl (fun h2 b1 hbb1 hzb1 eh2 bxb1 => ?_)
  have E3 := (Ext.refl h).trans eh2
  have z4 := eh2.size
  have lbb1 := bxb1.lt
  refine s_pure (.slice none 0 0) (fun _ q => q) ?_
  refine s_pure (.bool false) (fun _ q => q) ?_
  refine s_nil ?_
  refine p_seqN ?_
  refine v_seq ?_
  refine v_seq ?_
  refine v_ops ?_
  refine s_pure v_way (fun _ q => q) ?_
  refine s_pure (.int .i64 (way.length : Int)) (fun _ q => s_way.lenVC q) ?_
  refine s_callS [.int .i64 (way.length : Int), .int .i64 1, .int .i64 16] (.bool (decide (1 ≤ (way.length : Int) ∧ (way.length : Int) ≤ 16))) rfl (l1In_ok (way.length : Int) 1 16 _ ) ?_
  refine s_pure (.bool (!(decide (1 ≤ (way.length : Int) ∧ (way.length : Int) ≤ 16)))) (fun _ q => q) ?_
  refine s_pure (.bool (!(decide (1 ≤ (way.length : Int) ∧ (way.length : Int) ≤ 16)))) (fun _ q => q) ?_
  refine s_splitT rfl (fun c5 => ?_) (fun c5 => ?_)
  ·
    refine s_pass rfl ?_
    refine s_pass rfl ?_
    refine s_pass rfl ?_
    refine s_pass rfl ?_
    refine s_pass rfl ?_
    refine s_pass rfl ?_
    refine s_pass rfl ?_
    refine s_pure (.bool true) (fun _ q => q) ?_
    refine s_nil ?_
    refine p_seqN ?_
    refine v_condY rfl rfl ?_
    refine v_seq ?_
    refine v_ops ?_
    refine s_pure (.slice none 0 0) (fun _ q => q) ?_
    refine s_pure (.bool false) (fun _ q => q) ?_
    refine s_nil ?_
    refine p_seqN ?_
    refine v_ret ?_
    refine p_seqR ?_
    refine p_ret [.slice none 0 0, .bool false] (.tuple #[.slice none 0 0, .bool false]) (fun _ q => q) rfl ?_
    have ho : (lnkOf n way) = ([], false) := by first | exact lnk_no (fun h => by (have := h.len); omega) | exact lnk_no (fun h => absurd h.all (by assumption)) | exact rl_bad (by assumption : way[j]? = some _) (by assumption : way[j + 1]? = some _) (.inl (by assumption)) | exact rl_bad (by assumption : way[j]? = some _) (by assumption : way[j + 1]? = some _) (.inr (by assumption)) | (rw [lnk_yes (way_yes (by omega) (by assumption) hw (by omega)), ho, linksOf, show way.length - 1 = j by omega])
    exact ⟨(.slice none 0 0), by first | (rw [ho]; done) | rfl, sl_eq (SlX.nil (α := Int) true _) (congrArg (fun o => o.1) ho).symm, Fr.nil _, E3⟩
  ·
    have c5 := Classical.not_not.1 c5
    refine s_run rfl ?_
    refine s_pure v_way (fun _ q => q) ?_
    refine s_run rfl ?_
    refine s_pure (.pointer (some ⟨b1, 0, none⟩)) (fun _ q => q) ?_
    refine s_run rfl ?_
    refine s_load v_n_towers (fun _ q => bxb1.load rfl q) ?_
    refine s_run rfl ?_
    refine s_pure (.int .i64 (n.towers.length : Int)) (fun _ q => s_n_towers.lenVC q) ?_
    refine s_run rfl ?_
    refine s_pure (.int .i64 ((n.towers.length : Int) - 1)) (fun _ q => ArithVC.mk (by omega) q) ?_
    refine s_run rfl ?_
    have f6 := (s_way.ext eh2)
    refine s_callS [v_way, .int .i64 0, .int .i64 ((n.towers.length : Int) - 1)] (.bool (decide (AllIn 0 ((n.towers.length : Int) - 1) way))) rfl (l1All_ok v_way way 0 ((n.towers.length : Int) - 1) _ f6) ?_
    refine s_run rfl ?_
    refine s_pure (.bool (!(decide (AllIn 0 ((n.towers.length : Int) - 1) way)))) (fun _ q => q) ?_
    refine s_pure (.bool (!(decide (AllIn 0 ((n.towers.length : Int) - 1) way)))) (fun _ q => q) ?_
    refine s_nil ?_
    refine p_seqN ?_
    refine v_cond rfl (fun c7 => ?_) (fun c7 => ?_)
    ·
      refine v_seq ?_
      refine v_ops ?_
      refine s_pure (.slice none 0 0) (fun _ q => q) ?_
      refine s_pure (.bool false) (fun _ q => q) ?_
      refine s_nil ?_
      refine p_seqN ?_
      refine v_ret ?_
      refine p_seqR ?_
      refine p_ret [.slice none 0 0, .bool false] (.tuple #[.slice none 0 0, .bool false]) (fun _ q => q) rfl ?_
      have ho : (lnkOf n way) = ([], false) := by first | exact lnk_no (fun h => by (have := h.len); omega) | exact lnk_no (fun h => absurd h.all (by assumption)) | exact rl_bad (by assumption : way[j]? = some _) (by assumption : way[j + 1]? = some _) (.inl (by assumption)) | exact rl_bad (by assumption : way[j]? = some _) (by assumption : way[j + 1]? = some _) (.inr (by assumption)) | (rw [lnk_yes (way_yes (by omega) (by assumption) hw (by omega)), ho, linksOf, show way.length - 1 = j by omega])
      exact ⟨(.slice none 0 0), by first | (rw [ho]; done) | rfl, sl_eq (SlX.nil (α := Int) true _) (congrArg (fun o => o.1) ho).symm, Fr.nil _, E3⟩
    ·
      have c7 := Classical.not_not.1 c7
      refine v_skip ?_
      refine p_seqN ?_
      refine v_seq ?_
      refine v_ops ?_
      refine s_pure (.slice none 0 0) (fun _ q => q) ?_
      refine s_nil ?_
      refine p_seqN ?_
      refine v_seq ?_
      refine v_seq ?_
      refine v_ops ?_
      refine s_pure (.int .i64 1) (fun _ q => q) ?_
      refine s_nil ?_
      refine p_seqN ?_
      refine v_block ?_
      refine v_loop3 (α := Nat) (β := List Int) (γ := Value) (fun j o w => [(1, v_way), (2, .pointer (some ⟨b1, 0, none⟩)), (6, w), (7, .int .i64 ((j : Int) + 1))]) (fun j o w hh => Ext h hh ∧ Bx hh b1 [v_n_towers, v_n_links] 32 ∧ SlO hh w o ∧ Fr h.size w ∧ b1 ∉ blks w ∧ j + 1 ≤ way.length ∧ WayTo n way (j + 1) ∧ o = linksTo n way j) (fun j o w => way.length - j) 0 [] (.slice none 0 0) ⟨rfl, rfl, rfl, rfl⟩ ⟨E3, bxb1, (sl_eq (SlX.nil (α := Int) true h2) (by simp)), (Fr.nil _), (by simp [blks, fpts]), (by exact ⟨by omega, fun i x hi hx => ⟨by (obtain rfl : i = 0 := (by omega)); simp, fun h0 => by omega⟩, rfl⟩)⟩ ?_
      rintro j o w R9 h8 ⟨Eh, bxb1, s_w, fr_w, np_b1_w, ⟨hk, hw, ho⟩⟩
      have zEh := Eh.size
      have f10 := s_n_towers.ext Eh
      have f11 := s_n_links.ext Eh
      have f12 := s_way.ext Eh
      have lbb1 := bxb1.lt
      have lt_w := s_w.lt
      have hol : o.length = j := by rw [ho, linksTo_len]
      refine v_seq ?_
      refine v_seq ?_
      refine v_ops ?_
      refine s_pure (.int .i64 ((j : Int) + 1)) (fun _ q => q) ?_
      refine s_pure v_way (fun _ q => q) ?_
      refine s_pure (.int .i64 (way.length : Int)) (fun _ q => f12.lenVC q) ?_
      refine s_pure (.bool (decide (((j : Int) + 1) < (way.length : Int)))) (fun _ q => q) ?_
      refine s_nil ?_
      refine p_seqN ?_
      refine v_cond rfl (fun c13 => ?_) (fun c13 => ?_)
      ·
        refine v_skip ?_
        refine p_seqN ?_
        refine v_seq ?_
        refine v_block ?_
        refine v_seq ?_
        refine v_draw (DrawVC.hold ([b1] ++ blks v_way) ?_)
        refine d_pureT v_way (fun _ q => q) ?_
        refine d_pureT (.int .i64 ((j : Int) + 1)) (fun _ q => q) ?_
        refine d_pureT (.int .i64 (((j : Int) + 1) - 1)) (fun _ q => ArithVC.mk (by omega) q) ?_
        have hk14 : j < way.length := (by first | omega | (simp; omega))
        obtain ⟨x15, hx15⟩ : ∃ x, way[j]? = some x := ⟨_, List.getElem?_eq_getElem hk14⟩
        refine d_pureT (.pointer (some ⟨sblk v_way, soff v_way + j * 1, none⟩)) (fun _ q => f12.idx (k := j) (by omega) hk14 q) ?_
        refine d_pureT v_way (fun _ q => q) ?_
        refine d_pureT (.int .i64 ((j : Int) + 1)) (fun _ q => q) ?_
        have hk16 : (j + 1) < way.length := (by first | omega | (simp; omega))
        obtain ⟨x17, hx17⟩ : ∃ x, way[(j + 1)]? = some x := ⟨_, List.getElem?_eq_getElem hk16⟩
        refine d_pureT (.pointer (some ⟨sblk v_way, soff v_way + (j + 1) * 1, none⟩)) (fun _ q => f12.idx (k := (j + 1)) rfl hk16 q) ?_
        refine d_loadT (.agg #[v_n_towers, v_n_links]) (fun _ q => bxb1.takeA (by simp) rfl q) ?_
        refine d_loadT (.int .i64 x15) (fun _ q => f12.take1 (fun b hb => by simp [hb]) hx15 rfl q) ?_
        refine d_loadO (.int .i64 x17) (fun _ q => f12.load1 hx17 rfl q) ?_
        refine d_eff ?_
        refine s_call [.agg #[v_n_towers, v_n_links], .int .i64 x15, .int .i64 x17] rfl (spec_neLink_ok n v_n_towers v_n_links x15 x17 _ f10 f11) ?_
        rintro _ h18 ⟨rfl, eh18⟩
        have E19 := Eh.trans eh18
        have z20 := eh18.size
        have G21 := eh18
        refine s_nil ⟨fun hl => (by cases hl), ?_⟩
        refine d_pureT (.int .i64 (lkI n x15 x17)) (fun _ q => q) ?_
        refine d_done ?_
        refine p_seqN ?_
        refine v_seq ?_
        refine v_seq ?_
        refine v_drawF ?_
        refine d_pureT (.int .i64 (lkI n x15 x17)) (fun _ q => q) ?_
        refine d_pureT (.bool (decide ((lkI n x15 x17) < 0))) (fun _ q => q) ?_
        refine d_pureT (.bool (decide ((lkI n x15 x17) < 0))) (fun _ q => q) ?_
        refine d_splitT rfl (fun c22 => ?_) (fun c22 => ?_)
        ·
          refine d_passT rfl ?_
          refine d_passT rfl ?_
          refine d_passT rfl ?_
          refine d_passT rfl ?_
          refine d_passT rfl ?_
          refine d_passT rfl ?_
          refine d_passO rfl ?_
          refine d_passO rfl ?_
          refine d_pureT (.bool true) (fun _ q => q) ?_
          refine d_done ?_
          refine p_seqN ?_
          refine v_condY rfl rfl ?_
          refine v_seq ?_
          refine v_ops ?_
          refine s_pure (.slice none 0 0) (fun _ q => q) ?_
          refine s_pure (.bool false) (fun _ q => q) ?_
          refine s_nil ?_
          refine p_seqN ?_
          refine v_ret ?_
          refine p_seqR ?_
          refine p_blkR ?_
          refine p_seqR ?_
          refine p_lpR ?_
          refine p_blkR ?_
          refine p_seqR ?_
          refine p_ret [.slice none 0 0, .bool false] (.tuple #[.slice none 0 0, .bool false]) (fun _ q => q) rfl ?_
          have ho : (lnkOf n way) = ([], false) := by first | exact lnk_no (fun h => by (have := h.len); omega) | exact lnk_no (fun h => absurd h.all (by assumption)) | exact rl_bad (by assumption : way[j]? = some _) (by assumption : way[j + 1]? = some _) (.inl (by assumption)) | exact rl_bad (by assumption : way[j]? = some _) (by assumption : way[j + 1]? = some _) (.inr (by assumption)) | (rw [lnk_yes (way_yes (by omega) (by assumption) hw (by omega)), ho, linksOf, show way.length - 1 = j by omega])
          exact ⟨(.slice none 0 0), by first | (rw [ho]; done) | rfl, sl_eq (SlX.nil (α := Int) true _) (congrArg (fun o => o.1) ho).symm, Fr.nil _, E19⟩
        ·
          refine d_runT rfl ?_
          refine d_pureT v_way (fun _ q => q) ?_
          refine d_runT rfl ?_
          refine d_pureT (.int .i64 ((j : Int) + 1)) (fun _ q => q) ?_
          refine d_runT rfl ?_
          have f23 := (f12.ext eh18)
          obtain ⟨r24, hqr24, s_r24, bk_r24⟩ := f23.slc (l := 0) (m := (j + 1)) (by first | omega | (simp; omega)) (by first | omega | (simp; omega))
          simp only [List.drop_zero] at s_r24
          have lt_r24 := s_r24.lt
          refine d_pureT r24 (fun K q => hqr24 _ rfl none (some (.int .i64 ((j : Int) + 1))) rfl ⟨_, _, rfl, rfl⟩ K q) ?_
          refine d_runT rfl ?_
          refine d_pureT v_way (fun _ q => q) ?_
          refine d_runT rfl ?_
          refine d_pureT (.int .i64 ((j : Int) + 1)) (fun _ q => q) ?_
          refine d_runT rfl ?_
          refine d_pureT (.pointer (some ⟨sblk v_way, soff v_way + (j + 1) * 1, none⟩)) (fun _ q => f23.idx (k := (j + 1)) rfl hk16 q) ?_
          refine d_runO rfl ?_
          refine d_loadO (.int .i64 x17) (fun _ q => f23.load1 hx17 rfl q) ?_
          refine d_runO rfl ?_
          refine d_eff ?_
          refine s_call [r24, .int .i64 x17] rfl (spec_l1Has_ok r24 (way.take (j + 1)) x17 _ s_r24) ?_
          rintro _ h25 ⟨rfl, eh25⟩
          have E26 := E19.trans eh25
          have z27 := eh25.size
          have G28 := eh25
          refine s_nil ⟨fun hl => (by cases hl), ?_⟩
          refine d_pureT (.bool (decide (x17 ∈ (way.take (j + 1))))) (fun _ q => q) ?_
          refine d_done ?_
          refine p_seqN ?_
          refine v_cond rfl (fun c29 => ?_) (fun c29 => ?_)
          ·
            refine v_seq ?_
            refine v_ops ?_
            refine s_pure (.slice none 0 0) (fun _ q => q) ?_
            refine s_pure (.bool false) (fun _ q => q) ?_
            refine s_nil ?_
            refine p_seqN ?_
            refine v_ret ?_
            refine p_seqR ?_
            refine p_blkR ?_
            refine p_seqR ?_
            refine p_lpR ?_
            refine p_blkR ?_
            refine p_seqR ?_
            refine p_ret [.slice none 0 0, .bool false] (.tuple #[.slice none 0 0, .bool false]) (fun _ q => q) rfl ?_
            have ho : (lnkOf n way) = ([], false) := by first | exact lnk_no (fun h => by (have := h.len); omega) | exact lnk_no (fun h => absurd h.all (by assumption)) | exact rl_bad (by assumption : way[j]? = some _) (by assumption : way[j + 1]? = some _) (.inl (by assumption)) | exact rl_bad (by assumption : way[j]? = some _) (by assumption : way[j + 1]? = some _) (.inr (by assumption)) | (rw [lnk_yes (way_yes (by omega) (by assumption) hw (by omega)), ho, linksOf, show way.length - 1 = j by omega])
            exact ⟨(.slice none 0 0), by first | (rw [ho]; done) | rfl, sl_eq (SlX.nil (α := Int) true _) (congrArg (fun o => o.1) ho).symm, Fr.nil _, E26⟩
          ·
            refine v_skip ?_
            refine p_seqN ?_
            refine v_ops ?_
            refine s_pure w (fun _ q => q) ?_
            refine s_pure (.int .i64 (lkI n x15 x17)) (fun _ q => q) ?_
            refine s_row (α := Int) [(lkI n x15 x17)] (fun _ q => seg_i rfl (seg_nil q)) rfl (by simp [maxLen]) (fun r30 h31 eh31 zh31 s_r30 fr_r30 => ?_)
            have E32 := E26.trans eh31
            have z33 := eh31.size
            have lt_r30 := s_r30.lt
            have f34 := (((s_w.ext eh18).ext eh25).ext eh31)
            refine s_app f34 s_r30 rfl rfl rfl (by simp [maxLen]; omega) (by simp; omega) (fun r35 h36 mh36 zh36 s_r35 ab_r35 => ?_)
            have E37 := E32.mod mh36 (fun b hb => by have := fr_w b hb; omega)
            have fr_r35 := fr_w.app ab_r35 (by omega)
            have np38 : b1 ∉ blks r35 := fun hc => (ab_r35 _ hc).elim np_b1_w (fun hc => by omega)
            have np39 : ∀ b ∈ blks r30, b ∉ blks r35 := fun b hb hc => (ab_r35 _ hc).elim (((fun b hb hc => by have := fr_r30 b hb; have := lt_w b hc; omega) : ∀ b ∈ blks r30, b ∉ blks w) b hb) (fun hc => by have := lt_r30 b hb; omega)
            have lt_r35 := s_r35.lt
            refine s_pure r35 (fun _ q => q) ?_
            refine s_nil ?_
            refine p_blkN ?_
            refine p_seqN ?_
            refine v_ops ?_
            refine s_pure (.int .i64 ((j : Int) + 1)) (fun _ q => q) ?_
            refine s_pure (.int .i64 (((j : Int) + 1) + 1)) (fun _ q => ArithVC.mk (by omega) q) ?_
            refine s_pure (.int .i64 (((j : Int) + 1) + 1)) (fun _ q => q) ?_
            refine s_nil ?_
            have f40 := ((((bxb1.ext eh18).ext eh25).ext eh31).mod mh36 np_b1_w)
            exact p_lpN ⟨j + 1, (o ++ [(lkI n x15 x17)]), r35, ⟨rfl, rfl, rfl, rfl⟩, ⟨E37, f40, (sl_eq s_r35 (by simp)), (fr_r35.mono (by omega)), np38, (by exact ⟨by omega, rl_step hw (by assumption : way[j]? = some _) (by assumption : way[j + 1]? = some _) (by assumption) (by assumption), by rw [ho, linksTo_at (by assumption : way[j]? = some _) (by assumption : way[j + 1]? = some _)]⟩)⟩, by omega⟩
      ·
        refine v_exit ?_
        refine p_seqX ?_
        refine p_lpX ?_
        refine p_blkX ?_
        refine p_seqN ?_
        refine v_seq ?_
        refine v_ops ?_
        refine s_pure w (fun _ q => q) ?_
        refine s_pure w (fun _ q => q) ?_
        refine s_pure (.bool true) (fun _ q => q) ?_
        refine s_nil ?_
        refine p_seqN ?_
        refine v_ret ?_
        refine p_ret [w, .bool true] (.tuple #[w, .bool true]) (fun _ q => q) rfl ?_
        have ho : (lnkOf n way) = (o, true) := by first | exact lnk_no (fun h => by (have := h.len); omega) | exact lnk_no (fun h => absurd h.all (by assumption)) | exact rl_bad (by assumption : way[j]? = some _) (by assumption : way[j + 1]? = some _) (.inl (by assumption)) | exact rl_bad (by assumption : way[j]? = some _) (by assumption : way[j + 1]? = some _) (.inr (by assumption)) | (rw [lnk_yes (way_yes (by omega) (by assumption) hw (by omega)), ho, linksOf, show way.length - 1 = j by omega])
        exact ⟨w, by first | (rw [ho]; done) | rfl, sl_eq s_w (congrArg (fun o => o.1) ho).symm, fr_w.mono (by omega), Eh⟩

set_option maxRecDepth 10000 in
set_option maxHeartbeats 4000000 in
theorem spec_roAlong_ok (n : NetP) (v_n_towers : Value) (v_n_links : Value) (v_l : Value) (l : List FogD) (v_way : Value) (way : List Int) (t : Int) (h : Heap) (s_n_towers : Sl h v_n_towers n.towers) (s_n_links : Sl h v_n_links n.links) (s_l : Sl h v_l l) (s_way : Sl h v_way way) : Cn f_spec_roAlong [.agg #[v_n_towers, v_n_links], v_l, v_way, .int .i64 t] h fun v h' => ∃ r0 : Value, v = .tuple #[.int .i64 ((alongOf n l way t).1), r0, .bool ((alongOf n l way t).2.2)] ∧ SlO h' r0 ((alongOf n l way t).2.1) ∧ Fr h.size r0 ∧ Ext h h' := by
  have lt_n_towers := s_n_towers.lt
  have l63_n_towers := s_n_towers.len63
  have lt_n_links := s_n_links.lt
  have l63_n_links := s_n_links.len63
  have lt_l := s_l.lt
  have l63_l := s_l.len63
  have lt_way := s_way.lt
  have l63_way := s_way.len63
  refine calls_of r_spec_roAlong ?_
  refine v_seq ?_
  refine v_ops ?_
  refine s_box [v_n_towers, v_n_links] rfl (fun h2 b1 hbb1 hzb1 eh2 bxb1 => ?_)
  have E3 := (Ext.refl h).trans eh2
  have z4 := eh2.size
  have lbb1 := bxb1.lt
  refine s_pure (.int .i64 0) (fun _ q => q) ?_
  refine s_pure (.slice none 0 0) (fun _ q => q) ?_
  refine s_pure (.bool false) (fun _ q => q) ?_
  refine s_nil ?_
  refine p_seqN ?_
  refine v_seq ?_
  refine v_seq ?_
  refine v_ops ?_
  refine s_load (.agg #[v_n_towers, v_n_links]) (fun _ q => bxb1.loadA rfl q) ?_
  refine s_pure v_l (fun _ q => q) ?_
  refine s_pure (.int .i64 t) (fun _ q => q) ?_
  have f5 := (s_n_towers.ext eh2)
  have f6 := (s_n_links.ext eh2)
  have f7 := (s_l.ext eh2)
  refine s_call [.agg #[v_n_towers, v_n_links], v_l, .int .i64 t] rfl (spec_roGood_ok n v_n_towers v_n_links v_l l t _ f5 f6 f7) ?_
  rintro _ h8 ⟨rfl, eh8⟩
  have E9 := E3.trans eh8
  have z10 := eh8.size
  refine s_pure (.bool (!(decide (NetOk n ∧ FogsOk n.links.length l ∧ (0 ≤ t ∧ t ≤ 10000))))) (fun _ q => q) ?_
  refine s_nil ?_
  refine p_seqN ?_
  refine v_cond rfl (fun c11 => ?_) (fun c11 => ?_)
  ·
    refine v_seq ?_
    refine v_ops ?_
    refine s_pure (.int .i64 0) (fun _ q => q) ?_
    refine s_pure (.slice none 0 0) (fun _ q => q) ?_
    refine s_pure (.bool false) (fun _ q => q) ?_
    refine s_nil ?_
    refine p_seqN ?_
    refine v_ret ?_
    refine p_seqR ?_
    refine p_ret [.int .i64 0, .slice none 0 0, .bool false] (.tuple #[.int .i64 0, .slice none 0 0, .bool false]) (fun _ q => q) rfl ?_
    have ho : (alongOf n l way t) = (0, [], false) := by first | exact al_end hA hs (by omega) | exact along_no (fun h => (by assumption : ¬ (NetOk n ∧ FogsOk n.links.length l ∧ (0 ≤ t ∧ t ≤ 10000))) ⟨h.hn, h.hf, h.ht⟩) | exact along_no (fun h => by (have e := lnk_yes h.hw); simp [e] at *)
    exact ⟨(.slice none 0 0), by first | (rw [ho]; done) | rfl, sl_eq (SlX.nil (α := Int) true _) (congrArg (fun o => o.2.1) ho).symm, Fr.nil _, E9⟩
  ·
    have c11 := Classical.not_not.1 c11
    refine v_skip ?_
    refine p_seqN ?_
    refine v_seq ?_
    refine v_ops ?_
    have f12 := (bxb1.ext eh8)
    refine s_load (.agg #[v_n_towers, v_n_links]) (fun _ q => f12.loadA rfl q) ?_
    refine s_pure v_way (fun _ q => q) ?_
    have f13 := (f5.ext eh8)
    have f14 := (f6.ext eh8)
    have f15 := ((s_way.ext eh2).ext eh8)
    refine s_call [.agg #[v_n_towers, v_n_links], v_way] rfl (spec_roLinks_ok n v_n_towers v_n_links v_way way _ f13 f14 f15 (by assumption : NetOk n ∧ FogsOk n.links.length l ∧ (0 ≤ t ∧ t ≤ 10000)).1) ?_
    rintro _ h17 ⟨r16, rfl, s_r16, fr_r16, eh17⟩
    have E18 := E9.trans eh17
    have z19 := eh17.size
    have lt_r16 := s_r16.lt
    refine s_pure (.tuple #[r16, .bool ((lnkOf n way).2)]) (fun _ q => q) ?_
    refine s_pure r16 (fun _ q => q) ?_
    refine s_pure (.bool ((lnkOf n way).2)) (fun _ q => q) ?_
    refine s_pure r16 (fun _ q => q) ?_
    refine s_pure (.bool ((lnkOf n way).2)) (fun _ q => q) ?_
    refine s_nil ?_
    refine p_seqN ?_
    refine v_seq ?_
    refine v_seq ?_
    refine v_ops ?_
    refine s_pure (.bool ((lnkOf n way).2)) (fun _ q => q) ?_
    refine s_pure (.bool (!(lnkOf n way).2)) (fun _ q => q) ?_
    refine s_nil ?_
    refine p_seqN ?_
    refine v_cond rfl (fun c20 => ?_) (fun c20 => ?_)
    ·
      refine v_seq ?_
      refine v_ops ?_
      refine s_pure (.int .i64 0) (fun _ q => q) ?_
      refine s_pure (.slice none 0 0) (fun _ q => q) ?_
      refine s_pure (.bool false) (fun _ q => q) ?_
      refine s_nil ?_
      refine p_seqN ?_
      refine v_ret ?_
      refine p_seqR ?_
      refine p_ret [.int .i64 0, .slice none 0 0, .bool false] (.tuple #[.int .i64 0, .slice none 0 0, .bool false]) (fun _ q => q) rfl ?_
      have ho : (alongOf n l way t) = (0, [], false) := by first | exact al_end hA hs (by omega) | exact along_no (fun h => (by assumption : ¬ (NetOk n ∧ FogsOk n.links.length l ∧ (0 ≤ t ∧ t ≤ 10000))) ⟨h.hn, h.hf, h.ht⟩) | exact along_no (fun h => by (have e := lnk_yes h.hw); simp [e] at *)
      exact ⟨(.slice none 0 0), by first | (rw [ho]; done) | rfl, sl_eq (SlX.nil (α := Int) true _) (congrArg (fun o => o.2.1) ho).symm, Fr.nil _, E18⟩
    ·
      have c20 := Classical.not_not.1 c20
      refine v_skip ?_
      refine p_seqN ?_
      refine v_seq ?_
      refine v_ops ?_
      refine s_pure (.slice none 0 0) (fun _ q => q) ?_
      refine s_nil ?_
      refine p_seqN ?_
      refine v_seq ?_
      refine v_seq ?_
      refine v_ops ?_
      refine s_pure r16 (fun _ q => q) ?_
      refine s_pure (.int .i64 (((lnkOf n way).1).length : Int)) (fun _ q => s_r16.lenVC q) ?_
      refine s_pure (.int .i64 0) (fun _ q => q) ?_
      refine s_nil ?_
      refine p_seqN ?_
      refine v_block ?_
      have hA : AlongAsk n l way t := ⟨(by assumption : NetOk n ∧ FogsOk n.links.length l ∧ (0 ≤ t ∧ t ≤ 10000)).1, (by assumption : NetOk n ∧ FogsOk n.links.length l ∧ (0 ≤ t ∧ t ≤ 10000)).2.1, (by assumption : NetOk n ∧ FogsOk n.links.length l ∧ (0 ≤ t ∧ t ≤ 10000)).2.2, lnk_ask (by assumption)⟩
      have hwl := hA.hw.len
      have hlk : (lnkOf n way).1 = linksOf n way := by rw [lnk_yes hA.hw]
      have hll : (lnkOf n way).1.length = way.length - 1 := by rw [hlk, linksOf_len]
      have f22 := (f12.ext eh17)
      refine v_loop4 (α := Nat) (β := Int) (γ := List Int) (δ := Value) (fun k u ws w => [(1, v_l), (3, .int .i64 u), (4, .pointer (some ⟨b1, 0, none⟩)), (13, w), (30, r16), (31, .int .i64 (((lnkOf n way).1).length : Int)), (32, .int .i64 (k : Int))]) (fun k u ws w hh => Ext h hh ∧ Bx hh b1 [v_n_towers, v_n_links] 32 ∧ SlO hh w ws ∧ Fr h.size w ∧ SlO hh r16 ((lnkOf n way).1) ∧ b1 ∉ blks w ∧ (∀ b ∈ blks r16, b ∉ blks w) ∧ k ≤ (lnkOf n way).1.length ∧ (u, ws) = alTo n l ((linksOf n way).take k) t) (fun k u ws w => (lnkOf n way).1.length - k) 0 t [] (.slice none 0 0) ⟨rfl, rfl, rfl, rfl, rfl, rfl, rfl⟩ ⟨E18, f22, (sl_eq (SlX.nil (α := Int) true h17) (by simp)), (Fr.nil _), s_r16, (by simp [blks, fpts]), (fun b hb hc => by simp [blks, fpts] at hc), (by simp [alTo])⟩ ?_
      rintro k u ws w R23 h21 ⟨Eh, bxb1, s_w, fr_w, s_r16, np_b1_w, np_r16_w, ⟨hk, hs⟩⟩
      have zEh := Eh.size
      have f24 := s_n_towers.ext Eh
      have f25 := s_n_links.ext Eh
      have f26 := s_l.ext Eh
      have f27 := s_way.ext Eh
      have lbb1 := bxb1.lt
      have ltk_r16 := s_r16.lt
      have lt_w := s_w.lt
      have hub := al_bd2 hA hs (by omega)
      refine v_seq ?_
      refine v_ops ?_
      refine s_pure (.bool (decide ((k : Int) < (((lnkOf n way).1).length : Int)))) (fun _ q => q) ?_
      refine s_nil ?_
      refine p_seqN ?_
      refine v_seq ?_
      refine v_cond rfl (fun c28 => ?_) (fun c28 => ?_)
      ·
        refine v_skip ?_
        refine p_seqN ?_
        refine v_seq ?_
        refine v_block ?_
        refine v_seq ?_
        refine v_ops ?_
        have hk29 : k < ((lnkOf n way).1).length := (by first | omega | (simp; omega))
        obtain ⟨x30, hx30⟩ : ∃ x, ((lnkOf n way).1)[k]? = some x := ⟨_, List.getElem?_eq_getElem hk29⟩
        refine s_pure (.pointer (some ⟨sblk r16, soff r16 + k * 1, none⟩)) (fun _ q => s_r16.idx (k := k) rfl hk29 q) ?_
        refine s_load (.int .i64 x30) (fun _ q => s_r16.load1 hx30 rfl q) ?_
        refine s_pure (.int .i64 x30) (fun _ q => q) ?_
        refine s_nil ?_
        refine p_seqN ?_
        refine v_seq ?_
        refine v_ops ?_
        refine s_load (.agg #[v_n_towers, v_n_links]) (fun _ q => bxb1.loadA rfl q) ?_
        refine s_pure v_l (fun _ q => q) ?_
        refine s_pure (.int .i64 x30) (fun _ q => q) ?_
        refine s_pure (.int .i64 u) (fun _ q => q) ?_
        refine s_call [.agg #[v_n_towers, v_n_links], v_l, .int .i64 x30, .int .i64 u] rfl (spec_roOver_ok n v_n_towers v_n_links v_l l x30 u _ f24 f25 f26 _ hA.hn hA.hf (by (have hw1 := al_wide2 (u := u) hA (hlk ▸ (by assumption : (lnkOf n way).1[k]? = some _)) (by omega)); omega) (by omega)) ?_
        rintro _ h31 ⟨rfl, eh31⟩
        have E32 := Eh.trans eh31
        have z33 := eh31.size
        refine s_pure (.int .i64 (over l x30 (lk n x30) u)) (fun _ q => q) ?_
        refine s_nil ?_
        refine p_seqN ?_
        refine v_seq ?_
        refine v_ops ?_
        refine s_pure w (fun _ q => q) ?_
        refine s_pure (.int .i64 (over l x30 (lk n x30) u)) (fun _ q => q) ?_
        refine s_pure (.int .i64 u) (fun _ q => q) ?_
        refine s_pure (.int .i64 ((over l x30 (lk n x30) u) - u)) (fun _ q => ArithVC.mk (by (have hw1 := al_wide2 (u := u) hA (hlk ▸ (by assumption : (lnkOf n way).1[k]? = some _)) (by omega)); omega) q) ?_
        refine s_pure (.pointer (some ⟨b1, 1, none⟩)) (fun _ q => q) ?_
        have f34 := (bxb1.ext eh31)
        refine s_load v_n_links (fun _ q => f34.load rfl q) ?_
        refine s_pure (.int .i64 x30) (fun _ q => q) ?_
        have f35 := (f25.ext eh31)
        have hk36 : (x30).toNat < n.links.length := (by (have hw1 := al_wide2 (u := u) hA (hlk ▸ (by assumption : (lnkOf n way).1[k]? = some _)) (by omega)); omega)
        obtain ⟨x37, hx37⟩ : ∃ x, n.links[(x30).toNat]? = some x := ⟨_, List.getElem?_eq_getElem hk36⟩
        refine s_pure (.pointer (some ⟨sblk v_n_links, soff v_n_links + ((x30).toNat) * 3, none⟩)) (fun _ q => f35.idx (k := (x30).toNat) (by (have hw1 := al_wide2 (u := u) hA (hlk ▸ (by assumption : (lnkOf n way).1[k]? = some _)) (by omega)); omega) hk36 q) ?_
        refine s_pure (.pointer (some ⟨sblk v_n_links, soff v_n_links + ((x30).toNat) * 3 + 2, none⟩)) (fun _ q => q) ?_
        refine s_load (.int .i64 x37.delay) (fun _ q => f35.load hx37 (j := 2) rfl rfl q) ?_
        refine s_pure (.int .i64 (((over l x30 (lk n x30) u) - u) - x37.delay)) (fun _ q => ArithVC.mk (by (have hw1 := al_wide2 (u := u) hA (hlk ▸ (by assumption : (lnkOf n way).1[k]? = some _)) (by omega)); (have hq := hA.hn.at (by assumption : n.links[_]? = some _)); omega) q) ?_
        refine s_row (α := Int) [(((over l x30 (lk n x30) u) - u) - x37.delay)] (fun _ q => seg_i rfl (seg_nil q)) rfl (by simp [maxLen]) (fun r38 h39 eh39 zh39 s_r38 fr_r38 => ?_)
        have E40 := E32.trans eh39
        have z41 := eh39.size
        have lt_r38 := s_r38.lt
        have f42 := ((s_w.ext eh31).ext eh39)
        refine s_app f42 s_r38 rfl rfl rfl (by simp [maxLen]; omega) (by simp; omega) (fun r43 h44 mh44 zh44 s_r43 ab_r43 => ?_)
        have E45 := E40.mod mh44 (fun b hb => by have := fr_w b hb; omega)
        have fr_r43 := fr_w.app ab_r43 (by omega)
        have np46 : b1 ∉ blks r43 := fun hc => (ab_r43 _ hc).elim np_b1_w (fun hc => by omega)
        have np47 : ∀ b ∈ blks r16, b ∉ blks r43 := fun b hb hc => (ab_r43 _ hc).elim ((np_r16_w : ∀ b ∈ blks r16, b ∉ blks w) b hb) (fun hc => by have := ltk_r16 b hb; omega)
        have np48 : ∀ b ∈ blks r16, b ∉ blks r43 := fun b hb hc => (ab_r43 _ hc).elim ((np_r16_w : ∀ b ∈ blks r16, b ∉ blks w) b hb) (fun hc => by have := ltk_r16 b hb; omega)
        have np49 : ∀ b ∈ blks r38, b ∉ blks r43 := fun b hb hc => (ab_r43 _ hc).elim (((fun b hb hc => by have := fr_r38 b hb; have := lt_w b hc; omega) : ∀ b ∈ blks r38, b ∉ blks w) b hb) (fun hc => by have := lt_r38 b hb; omega)
        have lt_r43 := s_r43.lt
        refine s_pure r43 (fun _ q => q) ?_
        refine s_nil ?_
        refine p_seqN ?_
        refine v_ops ?_
        refine s_pure (.int .i64 (over l x30 (lk n x30) u)) (fun _ q => q) ?_
        refine s_pure (.int .i64 (over l x30 (lk n x30) u)) (fun _ q => q) ?_
        refine s_nil ?_
        refine p_blkN ?_
        refine p_seqN ?_
        refine v_ops ?_
        refine s_pure (.int .i64 ((k : Int) + 1)) (fun _ q => ArithVC.mk (by omega) q) ?_
        refine s_pure (.int .i64 ((k : Int) + 1)) (fun _ q => q) ?_
        refine s_nil ?_
        have f50 := ((f34.ext eh39).mod mh44 np_b1_w)
        have f51 := (((s_r16.ext eh31).ext eh39).mod mh44 np_r16_w)
        exact p_lpN ⟨k + 1, (over l x30 (lk n x30) u), (ws ++ [(((over l x30 (lk n x30) u) - u) - x37.delay)]), r43, ⟨rfl, rfl, rfl, rfl, rfl, rfl, rfl⟩, ⟨E45, f50, (sl_eq s_r43 (by simp)), (fr_r43.mono (by omega)), f51, np46, np48, (by exact ⟨by omega, al_step2 hA hs (by rw [← hlk]; assumption) (by assumption)⟩)⟩, by omega⟩
      ·
        refine v_exit ?_
        refine p_seqX ?_
        refine p_lpX ?_
        refine p_blkX ?_
        refine p_seqN ?_
        refine v_seq ?_
        refine v_ops ?_
        refine s_pure (.int .i64 u) (fun _ q => q) ?_
        refine s_pure w (fun _ q => q) ?_
        refine s_pure (.int .i64 u) (fun _ q => q) ?_
        refine s_pure w (fun _ q => q) ?_
        refine s_pure (.bool true) (fun _ q => q) ?_
        refine s_nil ?_
        refine p_seqN ?_
        refine v_ret ?_
        refine p_ret [.int .i64 u, w, .bool true] (.tuple #[.int .i64 u, w, .bool true]) (fun _ q => q) rfl ?_
        have ho : (alongOf n l way t) = (u, ws, true) := by first | exact al_end hA hs (by omega) | exact along_no (fun h => (by assumption : ¬ (NetOk n ∧ FogsOk n.links.length l ∧ (0 ≤ t ∧ t ≤ 10000))) ⟨h.hn, h.hf, h.ht⟩) | exact along_no (fun h => by (have e := lnk_yes h.hw); simp [e] at *)
        exact ⟨w, by first | (rw [ho]; done) | rfl, sl_eq s_w (congrArg (fun o => o.2.1) ho).symm, fr_w.mono (by omega), Eh⟩

theorem spec_WaitsAlong_ok (n : NetP) (v_n_towers : Value) (v_n_links : Value) (v_l : Value) (l : List FogD) (v_way : Value) (way : List Int) (t : Int) (h : Heap) (s_n_towers : Sl h v_n_towers n.towers) (s_n_links : Sl h v_n_links n.links) (s_l : Sl h v_l l) (s_way : Sl h v_way way) : Cn f_spec_WaitsAlong [.agg #[v_n_towers, v_n_links], v_l, v_way, .int .i64 t] h fun v h' => ∃ r0 : Value, v = .tuple #[r0, .bool ((waitsOf n l way t).2)] ∧ SlO h' r0 ((waitsOf n l way t).1) ∧ Fr h.size r0 ∧ Ext h h' := by
  have lt_n_towers := s_n_towers.lt
  have l63_n_towers := s_n_towers.len63
  have lt_n_links := s_n_links.lt
  have l63_n_links := s_n_links.len63
  have lt_l := s_l.lt
  have l63_l := s_l.len63
  have lt_way := s_way.lt
  have l63_way := s_way.len63
  refine calls_of r_spec_WaitsAlong ?_
  refine v_seq ?_
  refine v_ops ?_
  refine s_box [v_n_towers, v_n_links] rfl (fun h2 b1 hbb1 hzb1 eh2 bxb1 => ?_)
  have E3 := (Ext.refl h).trans eh2
  have z4 := eh2.size
  have lbb1 := bxb1.lt
  refine s_pure (.slice none 0 0) (fun _ q => q) ?_
  refine s_pure (.bool false) (fun _ q => q) ?_
  refine s_nil ?_
  refine p_seqN ?_
  refine v_seq ?_
  refine v_ops ?_
  refine s_load (.agg #[v_n_towers, v_n_links]) (fun _ q => bxb1.loadA rfl q) ?_
  refine s_pure v_l (fun _ q => q) ?_
  refine s_pure v_way (fun _ q => q) ?_
  refine s_pure (.int .i64 t) (fun _ q => q) ?_
  have f5 := (s_n_towers.ext eh2)
  have f6 := (s_n_links.ext eh2)
  have f7 := (s_l.ext eh2)
  have f8 := (s_way.ext eh2)
  refine s_call [.agg #[v_n_towers, v_n_links], v_l, v_way, .int .i64 t] rfl (spec_roAlong_ok n v_n_towers v_n_links v_l l v_way way t _ f5 f6 f7 f8) ?_
  rintro _ h10 ⟨r9, rfl, s_r9, fr_r9, eh10⟩
  have E11 := E3.trans eh10
  have z12 := eh10.size
  have lt_r9 := s_r9.lt
  refine s_pure (.tuple #[.int .i64 ((alongOf n l way t).1), r9, .bool ((alongOf n l way t).2.2)]) (fun _ q => q) ?_
  refine s_pure (.int .i64 ((alongOf n l way t).1)) (fun _ q => q) ?_
  refine s_pure r9 (fun _ q => q) ?_
  refine s_pure (.bool ((alongOf n l way t).2.2)) (fun _ q => q) ?_
  refine s_pure (.int .i64 ((alongOf n l way t).1)) (fun _ q => q) ?_
  refine s_pure r9 (fun _ q => q) ?_
  refine s_pure (.bool ((alongOf n l way t).2.2)) (fun _ q => q) ?_
  refine s_nil ?_
  refine p_seqN ?_
  refine v_seq ?_
  refine v_ops ?_
  refine s_pure r9 (fun _ q => q) ?_
  refine s_pure (.bool ((alongOf n l way t).2.2)) (fun _ q => q) ?_
  refine s_pure r9 (fun _ q => q) ?_
  refine s_pure (.bool ((alongOf n l way t).2.2)) (fun _ q => q) ?_
  refine s_nil ?_
  refine p_seqN ?_
  refine v_ret ?_
  refine p_ret [r9, .bool ((alongOf n l way t).2.2)] (.tuple #[r9, .bool ((alongOf n l way t).2.2)]) (fun _ q => q) rfl ?_
  have ho : (waitsOf n l way t) = ((alongOf n l way t).2.1, (alongOf n l way t).2.2) := by rfl
  exact ⟨r9, by first | (rw [ho]; done) | rfl, sl_eq s_r9 (congrArg (fun o => o.1) ho).symm, fr_r9.mono (by omega), E11⟩

theorem spec_ArrivalAlong_ok (n : NetP) (v_n_towers : Value) (v_n_links : Value) (v_l : Value) (l : List FogD) (v_way : Value) (way : List Int) (t : Int) (h : Heap) (s_n_towers : Sl h v_n_towers n.towers) (s_n_links : Sl h v_n_links n.links) (s_l : Sl h v_l l) (s_way : Sl h v_way way) : Cn f_spec_ArrivalAlong [.agg #[v_n_towers, v_n_links], v_l, v_way, .int .i64 t] h fun v h' => v = .tuple #[.int .i64 ((arrivOf n l way t).1), .bool ((arrivOf n l way t).2)] ∧ Ext h h' := by
  have lt_n_towers := s_n_towers.lt
  have l63_n_towers := s_n_towers.len63
  have lt_n_links := s_n_links.lt
  have l63_n_links := s_n_links.len63
  have lt_l := s_l.lt
  have l63_l := s_l.len63
  have lt_way := s_way.lt
  have l63_way := s_way.len63
  refine calls_of r_spec_ArrivalAlong ?_
  refine v_seq ?_
  refine v_ops ?_
  refine s_box [v_n_towers, v_n_links] rfl (fun h2 b1 hbb1 hzb1 eh2 bxb1 => ?_)
  have E3 := (Ext.refl h).trans eh2
  have z4 := eh2.size
  have lbb1 := bxb1.lt
  refine s_pure (.int .i64 0) (fun _ q => q) ?_
  refine s_pure (.bool false) (fun _ q => q) ?_
  refine s_nil ?_
  refine p_seqN ?_
  refine v_seq ?_
  refine v_ops ?_
  refine s_load (.agg #[v_n_towers, v_n_links]) (fun _ q => bxb1.loadA rfl q) ?_
  refine s_pure v_l (fun _ q => q) ?_
  refine s_pure v_way (fun _ q => q) ?_
  refine s_pure (.int .i64 t) (fun _ q => q) ?_
  have f5 := (s_n_towers.ext eh2)
  have f6 := (s_n_links.ext eh2)
  have f7 := (s_l.ext eh2)
  have f8 := (s_way.ext eh2)
  refine s_call [.agg #[v_n_towers, v_n_links], v_l, v_way, .int .i64 t] rfl (spec_roAlong_ok n v_n_towers v_n_links v_l l v_way way t _ f5 f6 f7 f8) ?_
  rintro _ h10 ⟨r9, rfl, s_r9, fr_r9, eh10⟩
  have E11 := E3.trans eh10
  have z12 := eh10.size
  have lt_r9 := s_r9.lt
  refine s_pure (.tuple #[.int .i64 ((alongOf n l way t).1), r9, .bool ((alongOf n l way t).2.2)]) (fun _ q => q) ?_
  refine s_pure (.int .i64 ((alongOf n l way t).1)) (fun _ q => q) ?_
  refine s_pure r9 (fun _ q => q) ?_
  refine s_pure (.bool ((alongOf n l way t).2.2)) (fun _ q => q) ?_
  refine s_pure (.int .i64 ((alongOf n l way t).1)) (fun _ q => q) ?_
  refine s_pure r9 (fun _ q => q) ?_
  refine s_pure (.bool ((alongOf n l way t).2.2)) (fun _ q => q) ?_
  refine s_nil ?_
  refine p_seqN ?_
  refine v_seq ?_
  refine v_ops ?_
  refine s_pure (.int .i64 ((alongOf n l way t).1)) (fun _ q => q) ?_
  refine s_pure (.bool ((alongOf n l way t).2.2)) (fun _ q => q) ?_
  refine s_pure (.int .i64 ((alongOf n l way t).1)) (fun _ q => q) ?_
  refine s_pure (.bool ((alongOf n l way t).2.2)) (fun _ q => q) ?_
  refine s_nil ?_
  refine p_seqN ?_
  refine v_ret ?_
  refine p_ret [.int .i64 ((alongOf n l way t).1), .bool ((alongOf n l way t).2.2)] (.tuple #[.int .i64 ((alongOf n l way t).1), .bool ((alongOf n l way t).2.2)]) (fun _ q => q) rfl ?_
  have ho : (arrivOf n l way t) = ((alongOf n l way t).1, (alongOf n l way t).2.2) := by rfl
  exact ⟨by first | (rw [ho]; done) | rfl, E11⟩

end Go.Proofs.Ythagdkmalchhgaa
