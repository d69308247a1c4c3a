/- Fo1, Fo2, Fo3, Fo4. Condition: none. -/
import Derived.Test.YtloicopmcagikaaMgB
import Derived.Test.YtloicopmcagikaaMgA
import Derived.Test.YtloicopmcagikaaMgF
import Derived.Test.YtloicopmcagikaaSized
/- Clear seconds and seconds of fog. Condition: none. Printed in part by a program. -/
namespace Go.Proofs.Ytloicopmcagikaa
open Go.Vc
set_option linter.all false

/-- a link is clear in a second -/
abbrev Cov (link t : Int) (x : FogD) : Prop := x.link = link ∧ x.fr ≤ t ∧ t < x.til
def clF (l : List FogD) (link t : Int) : Bool := !l.any fun x => decide (Cov link t x)
theorem clF_true {l : List FogD} {link t : Int} : clF l link t = true ↔ ∀ x ∈ l, ¬ Cov link t x := by
 simp only [clF, Bool.not_eq_true', List.any_eq_false, decide_eq_true_eq]
theorem clF_yes {l : List FogD} {link t : Int} {k : Nat} (h : ∀ x ∈ l.take k, ¬ Cov link t x) (hk : ¬ (k : Int) < (l.length : Int)) : clF l link t = true := by
 rw [List.take_of_length_le (by omega)] at h; exact clF_true.2 h
theorem clF_no {l : List FogD} {link t : Int} {k : Nat} {x : FogD} (hx : l[k]? = some x) (h : Cov link t x) : clF l link t = false := by
  cases c : clF l link t with
  | false => rfl
  | true => exact absurd h (clF_true.1 c x (List.mem_of_getElem? hx))
theorem cov_snoc {l : List FogD} {link t : Int} {k : Nat} {x : FogD} (h : ∀ x ∈ l.take k, ¬ Cov link t x) (hx : l[k]? = some x) (hc : ¬ Cov link t x) : ∀ x ∈ l.take (k + 1), ¬ Cov link t x := by
  rw [snoc_get hx]
  intro y hy
  rcases List.mem_append.1 hy with hy | hy
  · exact h y hy
  · obtain rfl := List.mem_singleton.1 hy; exact hc
/-- the seconds of a fog in a range -/
def ov (x : FogD) (a b : Int) : Int := if 0 < (if x.til < b then x.til else b) - (if x.fr > a then x.fr else a) then (if x.til < b then x.til else b) - (if x.fr > a then x.fr else a) else 0
theorem ov_bd {x : FogD} {a b : Int} (hab : a ≤ b) : 0 ≤ ov x a b ∧ ov x a b ≤ b - a := by
 unfold ov
 split <;> split <;> split <;> omega
theorem ov_spec (x : FogD) (a b : Int) : (if 0 > ((if x.til < b then x.til else b) - (if x.fr > a then x.fr else a)) then 0 else ((if x.til < b then x.til else b) - (if x.fr > a then x.fr else a))) = ov x a b := by
  unfold ov
  generalize (if x.til < b then x.til else b) - (if x.fr > a then x.fr else a) = p
  by_cases h : 0 > p
  · rw [if_pos h, if_neg (by omega)]
  · rw [if_neg h]; split <;> omega
theorem ov_impl (x : FogD) (a b : Int) : (if ((if b < x.til then b else x.til) - (if a > x.fr then a else x.fr)) > 0 then ((if b < x.til then b else x.til) - (if a > x.fr then a else x.fr)) else 0) = ov x a b := by
 have e1 : (if b < x.til then b else x.til) = (if x.til < b then x.til else b) := by split <;> split <;> omega
 have e2 : (if a > x.fr then a else x.fr) = (if x.fr > a then x.fr else a) := by split <;> split <;> omega
 rw [e1, e2]; unfold ov
 rfl
def fgSec (l : List FogD) (link a b : Int) : Int := l.foldl (fun s x => if x.link = link then s + ov x a b else s) 0
theorem fgSec_snoc (l : List FogD) (link a b : Int) (x : FogD) : fgSec (l ++ [x]) link a b = if x.link = link then fgSec l link a b + ov x a b else fgSec l link a b := by simp [fgSec]
theorem fgSec_bd (l : List FogD) (link : Int) {a b : Int} (hab : a ≤ b) (hb : b - a ≤ 10000) (k : Nat) : 0 ≤ fgSec (l.take k) link a b ∧ fgSec (l.take k) link a b ≤ 10000 * (k : Int) := by
  induction k with
  | zero => simp [fgSec]
  | succ k ih =>
    by_cases hk : k < l.length
    · have hx := List.getElem?_eq_getElem hk
      have := ov_bd (x := l[k]) hab
      rw [snoc_get hx, fgSec_snoc]
      split <;> omega
    · rw [List.take_of_length_le (by omega)]; rw [List.take_of_length_le (by omega)] at ih; omega
noncomputable def clOut (n : NetP) (l : List FogD) (link t : Int) : Bool × Bool := if AskF n l link t t then (clF l link t, true) else (false, false)
noncomputable def fsOut (n : NetP) (l : List FogD) (link a b : Int) : Int × Bool := if AskF n l link a b then (fgSec l link a b, true) else (0, false)
noncomputable def afOut (n : NetP) (l : List FogD) : Bool × Bool := if NetOk n then (decide (FogsOk n.links.length l), true) else (false, false)
theorem askF_of {n : NetP} {l : List FogD} {link t : Int} (h : NetOk n ∧ FogsOk n.links.length l ∧ (0 ≤ link ∧ link ≤ (n.links.length : Int) - 1)) (ht : 0 ≤ t ∧ t ≤ 10000) : AskF n l link t t := ⟨h.1, h.2.1, h.2.2, ht.1, Int.le_refl _, ht.2⟩
theorem askF_not {n : NetP} {l : List FogD} {link t : Int} (h : ¬ (NetOk n ∧ FogsOk n.links.length l ∧ (0 ≤ link ∧ link ≤ (n.links.length : Int) - 1)) ∨ ¬ (0 ≤ t ∧ t ≤ 10000)) : ¬ AskF n l link t t := fun q => by
  rcases h with h | h
  · exact h ⟨q.hn, q.hf, q.hk⟩
  · exact h ⟨q.ha, q.hb⟩

theorem slices_IndexFunc_Limpl_Fog_impl_Fog_ok (v_l : Value) (l : List FogD) (g : Nat) (fs cs : Array Value) (p : FogD → Bool) (h : Heap) (s_l : Sl h v_l l) (hc : ∀ x ∈ l, ∀ h2, Ext h h2 → Cn g (fs.toList ++ [.agg #[.int .i64 x.link, .int .i64 x.fr, .int .i64 x.til]] ++ cs.toList) h2 fun r h' => r = .bool (p x) ∧ Ext h2 h') : Cn f_slices_IndexFunc_Limpl_Fog_impl_Fog [v_l, .func (.func g) fs cs] h fun v h' => v = .int .i64 (firstF p l 0) ∧ Ext h h' := by
 have l63_l := s_l.len63
 refine calls_of r_slices_IndexFunc_Limpl_Fog_impl_Fog ?_
 refine v_seq <| v_ops <| s_pq (.int .i64 0) <| s_nil <| p_seqN <| v_seq <| v_seq <| v_ops <| s_pq v_l <| s_pure (.int .i64 (l.length : Int)) (fun _ q => s_l.lenVC q) <| s_pq (.int .i64 0) <| s_nil <| p_seqN <| v_block <| v_loop1 (α := Nat) (fun k => [(0, v_l), (1, .func (.func g) fs cs), (7, .int .i64 (l.length : Int)), (8, .int .i64 (k : Int))]) (fun k hh => Ext h hh ∧ k ≤ l.length ∧ firstF p l 0 = firstF p (l.drop k) k) (fun k => l.length - k) 0 ⟨rfl, rfl, rfl, rfl⟩ ⟨(Ext.refl h), (by simp)⟩ ?_
 rintro k R2 h1 ⟨Eh, ⟨hk, hF⟩⟩
 have zEh := Eh.size
 have f4 := s_l.ext Eh
 refine v_seq <| v_ops <| s_pq (.bool (decide ((k : Int) < (l.length : Int)))) <| s_nil <| p_seqN <| v_seq ?_
 refine v_cond rfl (fun c5 => ?_) (fun c5 => ?_)
 ·
  refine v_skip <| p_seqN <| v_seq <| v_block <| v_seq <| v_ops <| s_pq (.int .i64 (k : Int)) <| s_pq (.int .i64 (k : Int)) <| s_nil <| p_seqN <| v_seq <| v_ops <| s_pq (.func (.func g) fs cs) <| s_pq v_l <| s_pq (.int .i64 (k : Int)) ?_
  have hk6 : k < l.length := (by first | omega | (simp; omega))
  obtain ⟨x7, hx7⟩ : ∃ x, l[k]? = some x := ⟨_, List.getElem?_eq_getElem hk6⟩
  refine s_pure (.pointer (some ⟨sblk v_l, soff v_l + k * 3, none⟩)) (fun _ q => f4.idx (k := k) rfl hk6 q) <| s_load (.agg #[.int .i64 x7.link, .int .i64 x7.fr, .int .i64 x7.til]) (fun _ q => f4.loadN hx7 rfl q) <| s_callv (fs.toList ++ [.agg #[.int .i64 x7.link, .int .i64 x7.fr, .int .i64 x7.til]] ++ cs.toList) rfl rfl (hc x7 (List.mem_of_getElem? hx7) _ Eh) ?_
  rintro _ h8 ⟨rfl, eh8⟩
  have E9 := Eh.trans eh8
  have z10 := eh8.size
  refine s_nil <| p_seqN ?_
  refine v_cond rfl (fun c11 => ?_) (fun c11 => ?_)
  ·
   refine v_seq <| v_ops <| s_pq (.int .i64 (k : Int)) <| s_pq (.int .i64 (k : Int)) <| s_nil <| p_seqN <| v_ret <| p_blkR <| p_seqR <| p_lpR <| p_blkR <| p_seqR <| p_ret [.int .i64 (k : Int)] (.int .i64 (k : Int)) (fun _ q => q) rfl ?_
   have ho : firstF p l 0 = (k : Int) := by first | (rw [hF, drop_at (by assumption), firstF]; simp [*]; done) | (rw [hF, List.drop_of_length_le (by omega), firstF])
   exact ⟨by first | (rw [ho]; done) | rfl, E9⟩
  refine v_skip <| p_blkN <| p_seqN <| v_ops <| s_pure (.int .i64 ((k : Int) + 1)) (fun _ q => ArithVC.mk (by omega) q) <| s_pq (.int .i64 ((k : Int) + 1)) <| s_nil ?_
  exact p_lpN ⟨k + 1, ⟨rfl, rfl, rfl, rfl⟩, ⟨E9, (by exact ⟨by omega, by rw [hF, drop_at (by assumption), firstF]; simp [*]⟩)⟩, by omega⟩
 refine v_exit <| p_seqX <| p_lpX <| p_blkX <| p_seqN <| v_seq <| v_ops <| s_pq (.int .i64 (-1)) <| s_nil <| p_seqN <| v_ret <| p_ret [.int .i64 (-1)] (.int .i64 (-1)) (fun _ q => q) rfl ?_
 have ho : firstF p l 0 = (-1) := by first | (rw [hF, drop_at (by assumption), firstF]; simp [*]; done) | (rw [hF, List.drop_of_length_le (by omega), firstF])
 exact ⟨by first | (rw [ho]; done) | rfl, Eh⟩

theorem impl_isClear_1_ok (x : FogD) (link : Int) (p_link : Nat) (t_link : TypeId) (t : Int) (p_t : Nat) (t_t : TypeId) (h : Heap) (bx_link : Bx h p_link [.int .i64 link] t_link) (bx_t : Bx h p_t [.int .i64 t] t_t) : Cn f_impl_isClear_1 [.agg #[.int .i64 x.link, .int .i64 x.fr, .int .i64 x.til], .pointer (some ⟨p_link, 0, none⟩), .pointer (some ⟨p_t, 0, none⟩)] h fun v h' => v = .bool (decide (Cov link t x)) ∧ Ext h h' := by
 have lbx_link := bx_link.lt
 have lbx_t := bx_t.lt
 refine calls_of r_impl_isClear_1 ?_
 refine v_seq <| v_ops ?_
 refine s_box [.int .i64 x.link, .int .i64 x.fr, .int .i64 x.til] rfl (fun h2 b1 hbb1 hzb1 eh2 bxb1 => ?_)
 have E3 := (Ext.refl h).trans eh2
 have z4 := eh2.size
 have lbb1 := bxb1.lt
 refine s_pq (.bool false) <| s_nil <| p_seqN <| v_seq <| v_ops <| s_pq (.pointer (some ⟨b1, 0, none⟩)) <| s_load (.int .i64 x.link) (fun _ q => bxb1.load rfl q) ?_
 have f5 := (bx_link.ext eh2)
 refine s_load (.int .i64 link) (fun _ q => f5.load rfl q) <| s_pq (.bool (x.link == link)) <| s_pq (.bool (x.link == link)) ?_
 refine s_splitT rfl (fun c6 => ?_) (fun c6 => ?_)
 ·
  refine s_run rfl <| s_pq (.pointer (some ⟨b1, 1, none⟩)) <| s_run rfl <| s_load (.int .i64 x.fr) (fun _ q => bxb1.load rfl q) <| s_run rfl ?_
  have f7 := (bx_t.ext eh2)
  refine s_load (.int .i64 t) (fun _ q => f7.load rfl q) <| s_run rfl <| s_pq (.bool (decide (x.fr ≤ t))) <| s_pq (.bool (decide (x.fr ≤ t))) <| s_pq (.bool (decide (x.fr ≤ t))) ?_
  refine s_splitT rfl (fun c8 => ?_) (fun c8 => ?_)
  ·
   refine s_run rfl <| s_load (.int .i64 t) (fun _ q => f7.load rfl q) <| s_run rfl <| s_pq (.pointer (some ⟨b1, 2, none⟩)) <| s_run rfl <| s_load (.int .i64 x.til) (fun _ q => bxb1.load rfl q) <| s_run rfl <| s_pq (.bool (decide (t < x.til))) <| s_pq (.bool (decide (t < x.til))) <| s_pq (.bool (decide (t < x.til))) <| s_nil <| p_seqN <| v_ret <| p_ret [.bool (decide (t < x.til))] (.bool (decide (t < x.til))) (fun _ q => q) rfl ?_
   have ho : (decide (Cov link t x)) = (decide (t < x.til)) := by first | (simp [*]; done) | (rw [Bool.eq_iff_iff]; simp [*])
   exact ⟨by first | (rw [ho]; done) | rfl, E3⟩
  refine s_pass rfl <| s_pass rfl <| s_pass rfl <| s_pass rfl <| s_pq (.bool false) <| s_pq (.bool false) <| s_nil <| p_seqN <| v_ret <| p_ret [.bool false] (.bool false) (fun _ q => q) rfl ?_
  have ho : (decide (Cov link t x)) = false := by first | (simp [*]; done) | (rw [Bool.eq_iff_iff]; simp [*])
  exact ⟨by first | (rw [ho]; done) | rfl, E3⟩
 refine s_pass rfl <| s_pass rfl <| s_pass rfl <| s_pass rfl <| s_pq (.bool false) <| s_pq (.bool false) <| s_splitN rfl (by simp) <| s_pass rfl <| s_pass rfl <| s_pass rfl <| s_pass rfl <| s_pq (.bool false) <| s_pq (.bool false) <| s_nil <| p_seqN <| v_ret <| p_ret [.bool false] (.bool false) (fun _ q => q) rfl ?_
 have ho : (decide (Cov link t x)) = false := by first | (simp [*]; done) | (rw [Bool.eq_iff_iff]; simp [*])
 exact ⟨by first | (rw [ho]; done) | rfl, E3⟩

theorem impl_isClear_ok (v_l : Value) (l : List FogD) (link : Int) (t : Int) (h : Heap) (s_l : Sl h v_l l) : Cn f_impl_isClear [v_l, .int .i64 link, .int .i64 t] h fun v h' => v = .bool (clF l link t) ∧ Ext h h' := by
 have l63_l := s_l.len63
 refine calls_of r_impl_isClear ?_
 refine v_seq <| v_ops ?_
 refine s_box [.int .i64 link] rfl (fun h2 b1 hbb1 hzb1 eh2 bxb1 => ?_)
 have E3 := (Ext.refl h).trans eh2
 have z4 := eh2.size
 have lbb1 := bxb1.lt
 refine s_box [.int .i64 t] rfl (fun h6 b5 hbb5 hzb5 eh6 bxb5 => ?_)
 have E7 := E3.trans eh6
 have z8 := eh6.size
 have lbb5 := bxb5.lt
 refine s_pq (.bool false) <| s_nil <| p_seqN <| v_seq <| v_ops <| s_pq v_l <| s_pq (.func (.func 80) #[] #[.pointer (some ⟨b1, 0, none⟩), .pointer (some ⟨b5, 0, none⟩)]) ?_
 refine s_inl r_slices_ContainsFunc_Limpl_Fog_impl_Fog [v_l, .func (.func 80) #[] #[.pointer (some ⟨b1, 0, none⟩), .pointer (some ⟨b5, 0, none⟩)]] rfl ?_ rfl
 refine v_seq <| v_ops <| s_pq (.bool false) <| s_nil <| p_seqN <| v_seq <| v_ops <| s_pq v_l <| s_pq (.func (.func 80) #[] #[.pointer (some ⟨b1, 0, none⟩), .pointer (some ⟨b5, 0, none⟩)]) ?_
 have f9 := ((s_l.ext eh2).ext eh6)
 have f10 := (bxb1.ext eh6)
 refine s_call [v_l, .func (.func 80) #[] #[.pointer (some ⟨b1, 0, none⟩), .pointer (some ⟨b5, 0, none⟩)]] rfl (slices_IndexFunc_Limpl_Fog_impl_Fog_ok v_l l 80 #[] #[.pointer (some ⟨b1, 0, none⟩), .pointer (some ⟨b5, 0, none⟩)] (fun x : FogD => (decide (Cov link t x))) _ f9  (fun x hx h2 e2 => impl_isClear_1_ok x link b1 3 t b5 3 h2 (f10.ext e2) (bxb5.ext e2))) ?_
 rintro _ h11 ⟨rfl, eh11⟩
 have E12 := E7.trans eh11
 have z13 := eh11.size
 refine s_pq (.bool (decide ((firstF (fun x : FogD => (decide (Cov link t x))) l 0) ≥ 0))) <| s_pq (.bool (decide ((firstF (fun x : FogD => (decide (Cov link t x))) l 0) ≥ 0))) <| s_nil <| p_seqN <| v_ret <| p_ret [.bool (decide ((firstF (fun x : FogD => (decide (Cov link t x))) l 0) ≥ 0))] (.bool (decide ((firstF (fun x : FogD => (decide (Cov link t x))) l 0) ≥ 0))) (fun _ q => q) rfl <| s_pq (.bool (!(decide ((firstF (fun x : FogD => (decide (Cov link t x))) l 0) ≥ 0)))) <| s_pq (.bool (!(decide ((firstF (fun x : FogD => (decide (Cov link t x))) l 0) ≥ 0)))) ?_
 refine s_nil <| p_seqN <| v_ret <| p_ret [.bool (!(decide ((firstF (fun x : FogD => (decide (Cov link t x))) l 0) ≥ 0)))] (.bool (!(decide ((firstF (fun x : FogD => (decide (Cov link t x))) l 0) ≥ 0)))) (fun _ q => q) rfl ?_
 have ho : (clF l link t) = (!(decide ((firstF (fun x : FogD => (decide (Cov link t x))) l 0) ≥ 0))) := by (rw [clF, ← Bool.eq_iff_iff.2 ((decide_eq_true_iff (p := (0 : Int) ≤ _)).trans (firstF_nonneg _ _ _))])
 exact ⟨by first | (rw [ho]; done) | rfl, E12⟩

theorem spec_l1Most_ok (a : Int) (b : Int) (h : Heap)  : Cn f_spec_l1Most [.int .i64 a, .int .i64 b] h fun v h' => v = .int .i64 (if a > b then a else b) ∧ h' = h := by
 refine calls_of r_spec_l1Most ?_
 refine v_seq <| v_ops <| s_pq (.int .i64 0) <| s_nil <| p_seqN <| v_seq <| v_seq <| v_ops <| s_pq (.int .i64 a) <| s_pq (.int .i64 b) <| s_pq (.bool (decide (a > b))) <| s_nil <| p_seqN ?_
 refine v_cond rfl (fun c1 => ?_) (fun c1 => ?_)
 ·
  refine v_seq <| v_ops <| s_pq (.int .i64 a) <| s_pq (.int .i64 a) <| s_nil <| p_seqN <| v_ret <| p_seqR <| p_ret [.int .i64 a] (.int .i64 a) (fun _ q => q) rfl ?_
  have ho : (if a > b then a else b) = a := by simp [*]
  exact ⟨by first | (rw [ho]; done) | rfl, rfl⟩
 refine v_skip <| p_seqN <| v_seq <| v_ops <| s_pq (.int .i64 b) <| s_pq (.int .i64 b) <| s_nil <| p_seqN <| v_ret <| p_ret [.int .i64 b] (.int .i64 b) (fun _ q => q) rfl ?_
 have ho : (if a > b then a else b) = b := by simp [*]
 exact ⟨by first | (rw [ho]; done) | rfl, rfl⟩

theorem spec_fgClear_ok (v_l : Value) (l : List FogD) (link : Int) (t : Int) (h : Heap) (s_l : Sl h v_l l) (m : Nat) (hf : FogsOk m l) : Cn f_spec_fgClear [v_l, .int .i64 link, .int .i64 t] h fun v h' => v = .bool (clF l link t) ∧ Ext h h' := by
 have l63_l := s_l.len63
 refine calls_of r_spec_fgClear ?_
 refine v_seq <| v_ops <| s_pq (.bool false) <| s_nil <| p_seqN <| v_seq <| v_seq <| v_ops <| s_pq v_l <| s_pure (.int .i64 (l.length : Int)) (fun _ q => s_l.lenVC q) <| s_pq (.int .i64 0) <| s_nil <| p_seqN <| v_block <| v_loop1 (α := Nat) (fun k => [(1, .int .i64 link), (2, .int .i64 t), (9, v_l), (10, .int .i64 (l.length : Int)), (11, .int .i64 (k : Int))]) (fun k hh => Ext h hh ∧ k ≤ l.length ∧ ∀ x ∈ l.take k, ¬ Cov link t x) (fun k => l.length - k) 0 ⟨rfl, rfl, rfl, rfl, rfl⟩ ⟨(Ext.refl h), (by exact ⟨by omega, by simp⟩)⟩ ?_
 rintro k R2 h1 ⟨Eh, ⟨hk, hc⟩⟩
 have zEh := Eh.size
 have f4 := s_l.ext Eh
 refine v_seq <| v_ops <| s_pq (.bool (decide ((k : Int) < (l.length : Int)))) <| s_nil <| p_seqN <| v_seq ?_
 refine v_cond rfl (fun c5 => ?_) (fun c5 => ?_)
 ·
  refine v_skip <| p_seqN <| v_seq <| v_block <| v_seq <| v_ops ?_
  have hk6 : k < l.length := (by first | omega | (simp; omega))
  obtain ⟨x7, hx7⟩ : ∃ x, l[k]? = some x := ⟨_, List.getElem?_eq_getElem hk6⟩
  refine s_pure (.pointer (some ⟨sblk v_l, soff v_l + k * 3, none⟩)) (fun _ q => f4.idx (k := k) rfl hk6 q) <| s_load (.agg #[.int .i64 x7.link, .int .i64 x7.fr, .int .i64 x7.til]) (fun _ q => f4.loadN hx7 rfl q) ?_
  refine s_new (fun h9 b8 hbb8 hzb8 eh9 bxb8 => ?_)
  have E10 := Eh.trans eh9
  have z11 := eh9.size
  have lbb8 := bxb8.lt
  refine s_stBx (.agg #[.int .i64 x7.link, .int .i64 x7.fr, .int .i64 x7.til]) [.int .i64 x7.link, .int .i64 x7.fr, .int .i64 x7.til] [.int .i64 x7.link, .int .i64 x7.fr, .int .i64 x7.til] bxb8 rfl rfl rfl rfl (by simp) (all_cons rfl (all_cons rfl (all_cons rfl all_nil))) rfl (fun h12 mh12 sh12 bxx13 => ?_)
  have E14 := E10.mod mh12 (fun b hb => by simp at hb; omega)
  refine s_nil <| p_seqN <| v_seq <| v_ops <| s_pq (.pointer (some ⟨b8, 0, none⟩)) <| s_load (.int .i64 x7.link) (fun _ q => bxx13.load rfl q) <| s_pq (.int .i64 link) <| s_pq (.bool (x7.link == link)) <| s_pq (.bool (x7.link == link)) ?_
  refine s_splitT rfl (fun c15 => ?_) (fun c15 => ?_)
  ·
   refine s_run rfl <| s_pq (.int .i64 t) <| s_run rfl <| s_pq (.pointer (some ⟨b8, 1, none⟩)) <| s_run rfl <| s_load (.int .i64 x7.fr) (fun _ q => bxx13.load rfl q) <| s_run rfl <| s_pq (.pointer (some ⟨b8, 2, none⟩)) <| s_run rfl <| s_load (.int .i64 x7.til) (fun _ q => bxx13.load rfl q) <| s_run rfl <| s_pure (.int .i64 (x7.til - 1)) (fun _ q => ArithVC.mk (by have := hf.at (by assumption : l[k]? = some _); omega) q) <| s_run rfl <| s_callS [.int .i64 t, .int .i64 x7.fr, .int .i64 (x7.til - 1)] (.bool (decide (x7.fr ≤ t ∧ t ≤ (x7.til - 1)))) rfl (l1In_ok t x7.fr (x7.til - 1) _ ) ?_
   refine s_pq (.bool (decide (x7.fr ≤ t ∧ t ≤ (x7.til - 1)))) <| s_nil <| p_seqN ?_
   refine v_cond rfl (fun c16 => ?_) (fun c16 => ?_)
   ·
    refine v_seq <| v_ops <| s_pq (.bool false) <| s_nil <| p_seqN <| v_ret <| p_blkR <| p_seqR <| p_lpR <| p_blkR <| p_seqR <| p_ret [.bool false] (.bool false) (fun _ q => q) rfl ?_
    have ho : (clF l link t) = false := by first | exact clF_no (by assumption) (by unfold Cov; omega) | exact clF_yes hc (by assumption)
    exact ⟨by first | (rw [ho]; done) | rfl, E14⟩
   refine v_skip <| p_blkN <| p_seqN <| v_ops <| s_pure (.int .i64 ((k : Int) + 1)) (fun _ q => ArithVC.mk (by omega) q) <| s_pq (.int .i64 ((k : Int) + 1)) <| s_nil ?_
   exact p_lpN ⟨k + 1, ⟨rfl, rfl, rfl, rfl, rfl⟩, ⟨E14, (by exact ⟨by omega, cov_snoc hc (by assumption) (by unfold Cov; omega)⟩)⟩, by omega⟩
  refine s_pass rfl <| s_pass rfl <| s_pass rfl <| s_pass rfl <| s_pass rfl <| s_pass rfl <| s_pass rfl <| s_pq (.bool false) <| s_nil <| p_seqN <| v_condN rfl (by simp) <| v_skip <| p_blkN <| p_seqN <| v_ops <| s_pure (.int .i64 ((k : Int) + 1)) (fun _ q => ArithVC.mk (by omega) q) <| s_pq (.int .i64 ((k : Int) + 1)) <| s_nil ?_
  exact p_lpN ⟨k + 1, ⟨rfl, rfl, rfl, rfl, rfl⟩, ⟨E14, (by exact ⟨by omega, cov_snoc hc (by assumption) (by unfold Cov; omega)⟩)⟩, by omega⟩
 refine v_exit <| p_seqX <| p_lpX <| p_blkX <| p_seqN <| v_seq <| v_ops <| s_pq (.bool true) <| s_nil <| p_seqN <| v_ret <| p_ret [.bool true] (.bool true) (fun _ q => q) rfl ?_
 have ho : (clF l link t) = true := by first | exact clF_no (by assumption) (by unfold Cov; omega) | exact clF_yes hc (by assumption)
 exact ⟨by first | (rw [ho]; done) | rfl, Eh⟩

theorem spec_fgSeconds_ok (v_l : Value) (l : List FogD) (link : Int) (a : Int) (b : Int) (h : Heap) (s_l : Sl h v_l l) (m : Nat) (hf : FogsOk m l) (ha : 0 ≤ a) (hab : a ≤ b) (hb0 : b ≤ 10000) : Cn f_spec_fgSeconds [v_l, .int .i64 link, .int .i64 a, .int .i64 b] h fun v h' => v = .int .i64 (fgSec l link a b) ∧ Ext h h' := by
 have l63_l := s_l.len63
 refine calls_of r_spec_fgSeconds ?_
 refine v_seq <| v_ops <| s_pq (.int .i64 0) <| s_nil <| p_seqN <| v_seq <| v_ops <| s_pq (.int .i64 0) <| s_nil <| p_seqN <| v_seq <| v_seq <| v_ops <| s_pq v_l <| s_pure (.int .i64 (l.length : Int)) (fun _ q => s_l.lenVC q) <| s_pq (.int .i64 0) <| s_nil <| p_seqN <| v_block <| v_loop2 (α := Nat) (β := Int) (fun k u => [(1, .int .i64 link), (2, .int .i64 a), (3, .int .i64 b), (9, .int .i64 u), (12, v_l), (13, .int .i64 (l.length : Int)), (14, .int .i64 (k : Int))]) (fun k u hh => Ext h hh ∧ k ≤ l.length ∧ u = fgSec (l.take k) link a b) (fun k u => l.length - k) 0 0 ⟨rfl, rfl, rfl, rfl, rfl, rfl, rfl⟩ ⟨(Ext.refl h), (by simp [fgSec])⟩ ?_
 rintro k u R2 h1 ⟨Eh, ⟨hk, hu⟩⟩
 have zEh := Eh.size
 have f4 := s_l.ext Eh
 have hb := fgSec_bd l link hab (by omega) k
 rw [← hu] at hb
 have h60 := hf.1
 refine v_seq <| v_ops <| s_pq (.bool (decide ((k : Int) < (l.length : Int)))) <| s_nil <| p_seqN <| v_seq ?_
 refine v_cond rfl (fun c5 => ?_) (fun c5 => ?_)
 ·
  refine v_skip <| p_seqN <| v_seq <| v_block <| v_seq <| v_ops ?_
  have hk6 : k < l.length := (by first | omega | (simp; omega))
  obtain ⟨x7, hx7⟩ : ∃ x, l[k]? = some x := ⟨_, List.getElem?_eq_getElem hk6⟩
  refine s_pure (.pointer (some ⟨sblk v_l, soff v_l + k * 3, none⟩)) (fun _ q => f4.idx (k := k) rfl hk6 q) <| s_load (.agg #[.int .i64 x7.link, .int .i64 x7.fr, .int .i64 x7.til]) (fun _ q => f4.loadN hx7 rfl q) ?_
  refine s_new (fun h9 b8 hbb8 hzb8 eh9 bxb8 => ?_)
  have E10 := Eh.trans eh9
  have z11 := eh9.size
  have lbb8 := bxb8.lt
  refine s_stBx (.agg #[.int .i64 x7.link, .int .i64 x7.fr, .int .i64 x7.til]) [.int .i64 x7.link, .int .i64 x7.fr, .int .i64 x7.til] [.int .i64 x7.link, .int .i64 x7.fr, .int .i64 x7.til] bxb8 rfl rfl rfl rfl (by simp) (all_cons rfl (all_cons rfl (all_cons rfl all_nil))) rfl (fun h12 mh12 sh12 bxx13 => ?_)
  have E14 := E10.mod mh12 (fun b hb => by simp at hb; omega)
  refine s_nil <| p_seqN <| v_seq <| v_ops <| s_pq (.pointer (some ⟨b8, 0, none⟩)) <| s_load (.int .i64 x7.link) (fun _ q => bxx13.load rfl q) <| s_pq (.int .i64 link) <| s_pq (.bool (x7.link == link)) <| s_nil <| p_seqN ?_
  refine v_cond rfl (fun c15 => ?_) (fun c15 => ?_)
  ·
   refine v_draw (DrawVC.hold ([b8]) ?_)
   refine d_pq (.int .i64 u) <| d_pq (.pointer (some ⟨b8, 2, none⟩)) <| d_pq (.int .i64 b) <| d_pq (.pointer (some ⟨b8, 1, none⟩)) <| d_pq (.int .i64 a) <| d_loadO (.int .i64 x7.til) (fun _ q => bxx13.load rfl q) <| d_loadT (.int .i64 x7.fr) (fun _ q => bxx13.take (by simp) rfl q) <| d_eff <| s_callS [.int .i64 x7.til, .int .i64 b] (.int .i64 (if x7.til < b then x7.til else b)) rfl (spec_l1Least_ok x7.til b _ ) ?_
   refine s_nil ⟨fun _ x hx => rfl, ?_⟩
   refine d_eff <| s_callS [.int .i64 x7.fr, .int .i64 a] (.int .i64 (if x7.fr > a then x7.fr else a)) rfl (spec_l1Most_ok x7.fr a _ ) ?_
   refine s_nil ⟨fun hl => (by cases hl), ?_⟩
   refine d_pureT (.int .i64 ((if x7.til < b then x7.til else b) - (if x7.fr > a then x7.fr else a))) (fun _ q => ArithVC.mk (by have q_ := hf.at (by assumption : l[k]? = some _); (have q2_ := fun x => ov_bd (x := x) hab); first | omega | (rw [ov_spec]; (have q3_ := q2_ x7); omega) | (rw [ov_impl]; (have q3_ := q2_ x7); omega) | ((repeat split) <;> omega)) q) <| d_eff <| s_callS [.int .i64 0, .int .i64 ((if x7.til < b then x7.til else b) - (if x7.fr > a then x7.fr else a))] (.int .i64 (if 0 > ((if x7.til < b then x7.til else b) - (if x7.fr > a then x7.fr else a)) then 0 else ((if x7.til < b then x7.til else b) - (if x7.fr > a then x7.fr else a)))) rfl (spec_l1Most_ok 0 ((if x7.til < b then x7.til else b) - (if x7.fr > a then x7.fr else a)) _ ) ?_
   refine s_nil ⟨fun hl => (by cases hl), ?_⟩
   refine d_pureT (.int .i64 (u + (if 0 > ((if x7.til < b then x7.til else b) - (if x7.fr > a then x7.fr else a)) then 0 else ((if x7.til < b then x7.til else b) - (if x7.fr > a then x7.fr else a))))) (fun _ q => ArithVC.mk (by have q_ := hf.at (by assumption : l[k]? = some _); (have q2_ := fun x => ov_bd (x := x) hab); first | omega | (rw [ov_spec]; (have q3_ := q2_ x7); omega) | (rw [ov_impl]; (have q3_ := q2_ x7); omega) | ((repeat split) <;> omega)) q) <| d_pq (.int .i64 (u + (if 0 > ((if x7.til < b then x7.til else b) - (if x7.fr > a then x7.fr else a)) then 0 else ((if x7.til < b then x7.til else b) - (if x7.fr > a then x7.fr else a))))) ?_
   refine d_done <| p_blkN <| p_seqN <| v_ops <| s_pure (.int .i64 ((k : Int) + 1)) (fun _ q => ArithVC.mk (by omega) q) <| s_pq (.int .i64 ((k : Int) + 1)) <| s_nil ?_
   exact p_lpN ⟨k + 1, (u + (if 0 > ((if x7.til < b then x7.til else b) - (if x7.fr > a then x7.fr else a)) then 0 else ((if x7.til < b then x7.til else b) - (if x7.fr > a then x7.fr else a)))), ⟨rfl, rfl, rfl, rfl, rfl, rfl, rfl⟩, ⟨E14, (by exact ⟨by omega, by rw [snoc_get (by assumption), fgSec_snoc, ← hu]; first | (rw [ov_spec, if_pos (by omega)]; done) | (rw [ov_impl, if_pos (by omega)]; done) | (rw [if_neg (by omega)]; done)⟩)⟩, by omega⟩
  refine v_skip <| p_blkN <| p_seqN <| v_ops <| s_pure (.int .i64 ((k : Int) + 1)) (fun _ q => ArithVC.mk (by omega) q) <| s_pq (.int .i64 ((k : Int) + 1)) <| s_nil ?_
  exact p_lpN ⟨k + 1, u, ⟨rfl, rfl, rfl, rfl, rfl, rfl, rfl⟩, ⟨E14, (by exact ⟨by omega, by rw [snoc_get (by assumption), fgSec_snoc, ← hu]; first | (rw [ov_spec, if_pos (by omega)]; done) | (rw [ov_impl, if_pos (by omega)]; done) | (rw [if_neg (by omega)]; done)⟩)⟩, by omega⟩
 refine v_exit <| p_seqX <| p_lpX <| p_blkX <| p_seqN <| v_seq <| v_ops <| s_pq (.int .i64 u) <| s_pq (.int .i64 u) <| s_nil <| p_seqN <| v_ret <| p_ret [.int .i64 u] (.int .i64 u) (fun _ q => q) rfl ?_
 have ho : (fgSec l link a b) = u := by rw [take_all (by assumption)] at hu; exact hu.symm
 exact ⟨by first | (rw [ho]; done) | rfl, Eh⟩

theorem impl_IsClear_ok (n : NetP) (v_n_towers : Value) (v_n_links : Value) (v_l : Value) (l : List FogD) (link : Int) (t : Int) (h : Heap) (s_n_towers : Sl h v_n_towers n.towers) (s_n_links : Sl h v_n_links n.links) (s_l : Sl h v_l l) : Cn f_impl_IsClear [.agg #[v_n_towers, v_n_links], v_l, .int .i64 link, .int .i64 t] h fun v h' => v = .tuple #[.bool ((clOut n l link t).1), .bool ((clOut n l link t).2)] ∧ Ext h h' := by
 have l63_n_towers := s_n_towers.len63
 have l63_n_links := s_n_links.len63
 have l63_l := s_l.len63
 refine calls_of r_impl_IsClear ?_
 refine v_seq <| v_ops ?_
 refine s_box [v_n_towers, v_n_links] rfl (fun h2 b1 hbb1 hzb1 eh2 bxb1 => ?_)
 have E3 := (Ext.refl h).trans eh2
 have z4 := eh2.size
 have lbb1 := bxb1.lt
 refine s_pq (.bool false) <| s_pq (.bool false) <| s_nil <| p_seqN <| v_seq <| v_seq <| v_ops <| s_load (.agg #[v_n_towers, v_n_links]) (fun _ q => bxb1.loadA rfl q) <| s_pq v_l <| s_pq (.int .i64 link) <| s_pq (.int .i64 t) <| s_pq (.int .i64 t) ?_
 have f5 := (s_n_towers.ext eh2)
 have f6 := (s_n_links.ext eh2)
 have f7 := (s_l.ext eh2)
 refine s_call [.agg #[v_n_towers, v_n_links], v_l, .int .i64 link, .int .i64 t, .int .i64 t] rfl (impl_fogAsked_ok n v_n_towers v_n_links v_l l link t t _ f5 f6 f7) ?_
 rintro _ h8 ⟨rfl, eh8⟩
 have E9 := E3.trans eh8
 have z10 := eh8.size
 refine s_pq (.bool (!(decide (AskF n l link t t)))) <| s_nil <| p_seqN ?_
 refine v_cond rfl (fun c11 => ?_) (fun c11 => ?_)
 ·
  refine v_seq <| v_ops <| s_pq (.bool false) <| s_pq (.bool false) <| s_nil <| p_seqN <| v_ret <| p_seqR <| p_ret [.bool false, .bool false] (.tuple #[.bool false, .bool false]) (fun _ q => q) rfl ?_
  have ho : (clOut n l link t) = (false, false) := by first | exact if_neg (by assumption) | exact if_pos (by assumption)
  exact ⟨by first | (rw [ho]; done) | rfl, E9⟩
 have c11 := Classical.not_not.1 c11
 refine v_skip <| p_seqN <| v_seq <| v_ops <| s_pq v_l <| s_pq (.int .i64 link) <| s_pq (.int .i64 t) ?_
 have f12 := (f7.ext eh8)
 refine s_call [v_l, .int .i64 link, .int .i64 t] rfl (impl_isClear_ok v_l l link t _ f12) ?_
 rintro _ h13 ⟨rfl, eh13⟩
 have E14 := E9.trans eh13
 have z15 := eh13.size
 refine s_pq (.bool (clF l link t)) <| s_pq (.bool true) <| s_nil <| p_seqN <| v_ret <| p_ret [.bool (clF l link t), .bool true] (.tuple #[.bool (clF l link t), .bool true]) (fun _ q => q) rfl ?_
 have ho : (clOut n l link t) = ((clF l link t), true) := by first | exact if_neg (by assumption) | exact if_pos (by assumption)
 exact ⟨by first | (rw [ho]; done) | rfl, E14⟩

set_option maxRecDepth 10000 in
set_option maxHeartbeats 4000000 in
theorem impl_FogSeconds_ok (n : NetP) (v_n_towers : Value) (v_n_links : Value) (v_l : Value) (l : List FogD) (link : Int) (a : Int) (b : Int) (h : Heap) (s_n_towers : Sl h v_n_towers n.towers) (s_n_links : Sl h v_n_links n.links) (s_l : Sl h v_l l) : Cn f_impl_FogSeconds [.agg #[v_n_towers, v_n_links], v_l, .int .i64 link, .int .i64 a, .int .i64 b] h fun v h' => v = .tuple #[.int .i64 ((fsOut n l link a b).1), .bool ((fsOut n l link a b).2)] ∧ Ext h h' := by
 have l63_n_towers := s_n_towers.len63
 have l63_n_links := s_n_links.len63
 have l63_l := s_l.len63
 refine calls_of r_impl_FogSeconds ?_
 refine v_seq <| v_ops ?_
 refine s_box [v_n_towers, v_n_links] rfl (fun h2 b1 hbb1 hzb1 eh2 bxb1 => ?_)
 have E3 := (Ext.refl h).trans eh2
 have z4 := eh2.size
 have lbb1 := bxb1.lt
 refine s_pq (.int .i64 0) <| s_pq (.bool false) <| s_nil <| p_seqN <| v_seq <| v_seq <| v_ops <| s_load (.agg #[v_n_towers, v_n_links]) (fun _ q => bxb1.loadA rfl q) <| s_pq v_l <| s_pq (.int .i64 link) <| s_pq (.int .i64 a) <| s_pq (.int .i64 b) ?_
 have f5 := (s_n_towers.ext eh2)
 have f6 := (s_n_links.ext eh2)
 have f7 := (s_l.ext eh2)
 refine s_call [.agg #[v_n_towers, v_n_links], v_l, .int .i64 link, .int .i64 a, .int .i64 b] rfl (impl_fogAsked_ok n v_n_towers v_n_links v_l l link a b _ f5 f6 f7) ?_
 rintro _ h8 ⟨rfl, eh8⟩
 have E9 := E3.trans eh8
 have z10 := eh8.size
 refine s_pq (.bool (!(decide (AskF n l link a b)))) <| s_nil <| p_seqN ?_
 refine v_cond rfl (fun c11 => ?_) (fun c11 => ?_)
 ·
  refine v_seq <| v_ops <| s_pq (.int .i64 0) <| s_pq (.bool false) <| s_nil <| p_seqN <| v_ret <| p_seqR <| p_ret [.int .i64 0, .bool false] (.tuple #[.int .i64 0, .bool false]) (fun _ q => q) rfl ?_
  have ho : (fsOut n l link a b) = (0, false) := by first | exact if_neg (by assumption) | (rw [fsOut, if_pos (by assumption), hu, take_all (by assumption)])
  exact ⟨by first | (rw [ho]; done) | rfl, E9⟩
 have c11 := Classical.not_not.1 c11
 refine v_skip <| p_seqN <| v_seq <| v_ops <| s_pq (.int .i64 0) <| s_nil <| p_seqN <| v_seq <| v_seq <| v_ops <| s_pq v_l <| s_pure (.int .i64 (l.length : Int)) (fun _ q => f7.lenVC q) <| s_pq (.int .i64 0) <| s_nil <| p_seqN <| v_block <| v_loop2 (α := Nat) (β := Int) (fun k u => [(2, .int .i64 link), (3, .int .i64 a), (4, .int .i64 b), (12, .int .i64 u), (22, v_l), (23, .int .i64 (l.length : Int)), (24, .int .i64 (k : Int))]) (fun k u hh => Ext h hh ∧ k ≤ l.length ∧ u = fgSec (l.take k) link a b) (fun k u => l.length - k) 0 0 ⟨rfl, rfl, rfl, rfl, rfl, rfl, rfl⟩ ⟨E9, (by simp [fgSec])⟩ ?_
 rintro k u R13 h12 ⟨Eh, ⟨hk, hu⟩⟩
 have zEh := Eh.size
 have f17 := s_l.ext Eh
 have hq := (by assumption : AskF n l link a b)
 have hf := hq.hf
 have ha := hq.ha
 have hab := hq.hab
 have hb0 := hq.hb
 have hb := fgSec_bd l link hab (by omega) k
 rw [← hu] at hb
 have h60 := hf.1
 refine v_seq <| v_ops <| s_pq (.bool (decide ((k : Int) < (l.length : Int)))) <| s_nil <| p_seqN <| v_seq ?_
 refine v_cond rfl (fun c18 => ?_) (fun c18 => ?_)
 ·
  refine v_skip <| p_seqN <| v_seq <| v_block <| v_seq <| v_ops ?_
  have hk19 : k < l.length := (by first | omega | (simp; omega))
  obtain ⟨x20, hx20⟩ : ∃ x, l[k]? = some x := ⟨_, List.getElem?_eq_getElem hk19⟩
  refine s_pure (.pointer (some ⟨sblk v_l, soff v_l + k * 3, none⟩)) (fun _ q => f17.idx (k := k) rfl hk19 q) <| s_load (.agg #[.int .i64 x20.link, .int .i64 x20.fr, .int .i64 x20.til]) (fun _ q => f17.loadN hx20 rfl q) ?_
  refine s_new (fun h22 b21 hbb21 hzb21 eh22 bxb21 => ?_)
  have E23 := Eh.trans eh22
  have z24 := eh22.size
  have lbb21 := bxb21.lt
  refine s_stBx (.agg #[.int .i64 x20.link, .int .i64 x20.fr, .int .i64 x20.til]) [.int .i64 x20.link, .int .i64 x20.fr, .int .i64 x20.til] [.int .i64 x20.link, .int .i64 x20.fr, .int .i64 x20.til] bxb21 rfl rfl rfl rfl (by simp) (all_cons rfl (all_cons rfl (all_cons rfl all_nil))) rfl (fun h25 mh25 sh25 bxx26 => ?_)
  have E27 := E23.mod mh25 (fun b hb => by simp at hb; omega)
  refine s_nil <| p_seqN <| v_seq <| v_ops <| s_pq (.pointer (some ⟨b21, 0, none⟩)) <| s_load (.int .i64 x20.link) (fun _ q => bxx26.load rfl q) <| s_pq (.int .i64 link) <| s_pq (.bool (x20.link == link)) <| s_nil <| p_seqN ?_
  refine v_cond rfl (fun c28 => ?_) (fun c28 => ?_)
  ·
   refine v_ops <| s_pq (.int .i64 u) <| s_pq (.pointer (some ⟨b21, 2, none⟩)) <| s_load (.int .i64 x20.til) (fun _ q => bxx26.load rfl q) <| s_pq (.int .i64 b) <| s_pq (.int .i64 (if b < x20.til then b else x20.til)) <| s_pq (.pointer (some ⟨b21, 1, none⟩)) <| s_load (.int .i64 x20.fr) (fun _ q => bxx26.load rfl q) <| s_pq (.int .i64 a) <| s_pq (.int .i64 (if a > x20.fr then a else x20.fr)) <| s_pure (.int .i64 ((if b < x20.til then b else x20.til) - (if a > x20.fr then a else x20.fr))) (fun _ q => ArithVC.mk (by have q_ := hf.at (by assumption : l[k]? = some _); (have q2_ := fun x => ov_bd (x := x) hab); first | omega | (rw [ov_spec]; (have q3_ := q2_ x20); omega) | (rw [ov_impl]; (have q3_ := q2_ x20); omega) | ((repeat split) <;> omega)) q) ?_
   refine s_pq (.int .i64 (if ((if b < x20.til then b else x20.til) - (if a > x20.fr then a else x20.fr)) > 0 then ((if b < x20.til then b else x20.til) - (if a > x20.fr then a else x20.fr)) else 0)) <| s_pure (.int .i64 (u + (if ((if b < x20.til then b else x20.til) - (if a > x20.fr then a else x20.fr)) > 0 then ((if b < x20.til then b else x20.til) - (if a > x20.fr then a else x20.fr)) else 0))) (fun _ q => ArithVC.mk (by have q_ := hf.at (by assumption : l[k]? = some _); (have q2_ := fun x => ov_bd (x := x) hab); first | omega | (rw [ov_spec]; (have q3_ := q2_ x20); omega) | (rw [ov_impl]; (have q3_ := q2_ x20); omega) | ((repeat split) <;> omega)) q) ?_
   refine s_pq (.int .i64 (u + (if ((if b < x20.til then b else x20.til) - (if a > x20.fr then a else x20.fr)) > 0 then ((if b < x20.til then b else x20.til) - (if a > x20.fr then a else x20.fr)) else 0))) <| s_nil <| p_blkN <| p_seqN <| v_ops <| s_pure (.int .i64 ((k : Int) + 1)) (fun _ q => ArithVC.mk (by omega) q) <| s_pq (.int .i64 ((k : Int) + 1)) <| s_nil ?_
   exact p_lpN ⟨k + 1, (u + (if ((if b < x20.til then b else x20.til) - (if a > x20.fr then a else x20.fr)) > 0 then ((if b < x20.til then b else x20.til) - (if a > x20.fr then a else x20.fr)) else 0)), ⟨rfl, rfl, rfl, rfl, rfl, rfl, rfl⟩, ⟨E27, (by exact ⟨by omega, by rw [snoc_get (by assumption), fgSec_snoc, ← hu]; first | (rw [ov_spec, if_pos (by omega)]; done) | (rw [ov_impl, if_pos (by omega)]; done) | (rw [if_neg (by omega)]; done)⟩)⟩, by omega⟩
  refine v_skip <| p_blkN <| p_seqN <| v_ops <| s_pure (.int .i64 ((k : Int) + 1)) (fun _ q => ArithVC.mk (by omega) q) <| s_pq (.int .i64 ((k : Int) + 1)) <| s_nil ?_
  exact p_lpN ⟨k + 1, u, ⟨rfl, rfl, rfl, rfl, rfl, rfl, rfl⟩, ⟨E27, (by exact ⟨by omega, by rw [snoc_get (by assumption), fgSec_snoc, ← hu]; first | (rw [ov_spec, if_pos (by omega)]; done) | (rw [ov_impl, if_pos (by omega)]; done) | (rw [if_neg (by omega)]; done)⟩)⟩, by omega⟩
 refine v_exit <| p_seqX <| p_lpX <| p_blkX <| p_seqN <| v_seq <| v_ops <| s_pq (.int .i64 u) <| s_pq (.int .i64 u) <| s_pq (.bool true) <| s_nil <| p_seqN <| v_ret <| p_ret [.int .i64 u, .bool true] (.tuple #[.int .i64 u, .bool true]) (fun _ q => q) rfl ?_
 have ho : (fsOut n l link a b) = (u, true) := by first | exact if_neg (by assumption) | (rw [fsOut, if_pos (by assumption), hu, take_all (by assumption)])
 exact ⟨by first | (rw [ho]; done) | rfl, Eh⟩

theorem impl_AreFogs_ok (n : NetP) (v_n_towers : Value) (v_n_links : Value) (v_l : Value) (l : List FogD) (h : Heap) (s_n_towers : Sl h v_n_towers n.towers) (s_n_links : Sl h v_n_links n.links) (s_l : Sl h v_l l) : Cn f_impl_AreFogs [.agg #[v_n_towers, v_n_links], v_l] h fun v h' => v = .tuple #[.bool ((afOut n l).1), .bool ((afOut n l).2)] ∧ Ext h h' := by
 have l63_n_towers := s_n_towers.len63
 have l63_n_links := s_n_links.len63
 have l63_l := s_l.len63
 refine calls_of r_impl_AreFogs ?_
 refine v_seq <| v_ops ?_
 refine s_box [v_n_towers, v_n_links] rfl (fun h2 b1 hbb1 hzb1 eh2 bxb1 => ?_)
 have E3 := (Ext.refl h).trans eh2
 have z4 := eh2.size
 have lbb1 := bxb1.lt
 refine s_pq (.bool false) <| s_pq (.bool false) <| s_nil <| p_seqN <| v_seq <| v_seq <| v_ops <| s_load (.agg #[v_n_towers, v_n_links]) (fun _ q => bxb1.loadA rfl q) ?_
 have f5 := (s_n_towers.ext eh2)
 have f6 := (s_n_links.ext eh2)
 refine s_call [.agg #[v_n_towers, v_n_links]] rfl (impl_IsNet_ok n v_n_towers v_n_links _ f5 f6) ?_
 rintro _ h7 ⟨rfl, eh7⟩
 have E8 := E3.trans eh7
 have z9 := eh7.size
 refine s_pq (.bool (!decide (NetOk n))) <| s_nil <| p_seqN ?_
 refine v_cond rfl (fun c10 => ?_) (fun c10 => ?_)
 ·
  refine v_seq <| v_ops <| s_pq (.bool false) <| s_pq (.bool false) <| s_nil <| p_seqN <| v_ret <| p_seqR <| p_ret [.bool false, .bool false] (.tuple #[.bool false, .bool false]) (fun _ q => q) rfl ?_
  have ho : (afOut n l) = (false, false) := by first | exact if_neg (by assumption) | exact if_pos (by assumption)
  exact ⟨by first | (rw [ho]; done) | rfl, E8⟩
 have c10 := Classical.not_not.1 c10
 refine v_skip <| p_seqN <| v_seq <| v_ops ?_
 have f11 := (bxb1.ext eh7)
 refine s_load (.agg #[v_n_towers, v_n_links]) (fun _ q => f11.loadA rfl q) <| s_pq v_l ?_
 have f12 := (f5.ext eh7)
 have f13 := (f6.ext eh7)
 have f14 := ((s_l.ext eh2).ext eh7)
 refine s_call [.agg #[v_n_towers, v_n_links], v_l] rfl (impl_areFogs_ok n v_n_towers v_n_links v_l l _ f12 f13 f14) ?_
 rintro _ h15 ⟨rfl, eh15⟩
 have E16 := E8.trans eh15
 have z17 := eh15.size
 refine s_pq (.bool (decide (FogsOk n.links.length l))) <| s_pq (.bool true) <| s_nil <| p_seqN <| v_ret <| p_ret [.bool (decide (FogsOk n.links.length l)), .bool true] (.tuple #[.bool (decide (FogsOk n.links.length l)), .bool true]) (fun _ q => q) rfl ?_
 have ho : (afOut n l) = ((decide (FogsOk n.links.length l)), true) := by first | exact if_neg (by assumption) | exact if_pos (by assumption)
 exact ⟨by first | (rw [ho]; done) | rfl, E16⟩

theorem spec_AreFogs_ok (n : NetP) (v_n_towers : Value) (v_n_links : Value) (v_l : Value) (l : List FogD) (h : Heap) (s_n_towers : Sl h v_n_towers n.towers) (s_n_links : Sl h v_n_links n.links) (s_l : Sl h v_l l) : Cn f_spec_AreFogs [.agg #[v_n_towers, v_n_links], v_l] h fun v h' => v = .tuple #[.bool ((afOut n l).1), .bool ((afOut n l).2)] ∧ Ext h h' := by
 have l63_n_towers := s_n_towers.len63
 have l63_n_links := s_n_links.len63
 have l63_l := s_l.len63
 refine calls_of r_spec_AreFogs ?_
 refine v_seq <| v_ops ?_
 refine s_box [v_n_towers, v_n_links] rfl (fun h2 b1 hbb1 hzb1 eh2 bxb1 => ?_)
 have E3 := (Ext.refl h).trans eh2
 have z4 := eh2.size
 have lbb1 := bxb1.lt
 refine s_pq (.bool false) <| s_pq (.bool false) <| s_nil <| p_seqN <| v_seq <| v_seq <| v_ops <| s_load (.agg #[v_n_towers, v_n_links]) (fun _ q => bxb1.loadA rfl q) ?_
 have f5 := (s_n_towers.ext eh2)
 have f6 := (s_n_links.ext eh2)
 refine s_call [.agg #[v_n_towers, v_n_links]] rfl (spec_neGood_ok n v_n_towers v_n_links _ f5 f6) ?_
 rintro _ h7 ⟨rfl, eh7⟩
 have E8 := E3.trans eh7
 have z9 := eh7.size
 refine s_pq (.bool (!decide (NetOk n))) <| s_nil <| p_seqN ?_
 refine v_cond rfl (fun c10 => ?_) (fun c10 => ?_)
 ·
  refine v_seq <| v_ops <| s_pq (.bool false) <| s_pq (.bool false) <| s_nil <| p_seqN <| v_ret <| p_seqR <| p_ret [.bool false, .bool false] (.tuple #[.bool false, .bool false]) (fun _ q => q) rfl ?_
  have ho : (afOut n l) = (false, false) := by first | exact if_neg (by assumption) | exact if_pos (by assumption)
  exact ⟨by first | (rw [ho]; done) | rfl, E8⟩
 have c10 := Classical.not_not.1 c10
 refine v_skip <| p_seqN <| v_seq <| v_ops ?_
 have f11 := (bxb1.ext eh7)
 refine s_load (.agg #[v_n_towers, v_n_links]) (fun _ q => f11.loadA rfl q) <| s_pq v_l ?_
 have f12 := (f5.ext eh7)
 have f13 := (f6.ext eh7)
 have f14 := ((s_l.ext eh2).ext eh7)
 refine s_call [.agg #[v_n_towers, v_n_links], v_l] rfl (spec_fgGood_ok n v_n_towers v_n_links v_l l _ f12 f13 f14) ?_
 rintro _ h15 ⟨rfl, eh15⟩
 have E16 := E8.trans eh15
 have z17 := eh15.size
 refine s_pq (.bool (decide (FogsOk n.links.length l))) <| s_pq (.bool true) <| s_nil <| p_seqN <| v_ret <| p_ret [.bool (decide (FogsOk n.links.length l)), .bool true] (.tuple #[.bool (decide (FogsOk n.links.length l)), .bool true]) (fun _ q => q) rfl ?_
 have ho : (afOut n l) = ((decide (FogsOk n.links.length l)), true) := by first | exact if_neg (by assumption) | exact if_pos (by assumption)
 exact ⟨by first | (rw [ho]; done) | rfl, E16⟩

end Go.Proofs.Ytloicopmcagikaa


/- What is drawn for the laws of fogs. Condition: none. Printed in part by a program. -/
namespace Go.Proofs.Ytloicopmcagikaa
open Go.Vc
set_option linter.all false
theorem spec_DrawAreFogs_ok (v_code : Value) (code : List By) (h : Heap) (s_code : Sl h v_code code) (hby : ∀ y ∈ code, 0 ≤ y.n ∧ y.n ≤ 255) (hsz : code.length ≤ 2000000) : Cn f_spec_DrawAreFogs [v_code] h fun v h' => ∃ g0 : NetP, ∃ g1 : List FogD, ∃ r0 : Value, ∃ r1 : Value, ∃ r2 : Value, v = .tuple #[.agg #[r0, r1], r2] ∧ SlO h' r0 g0.towers ∧ Fr h.size r0 ∧ SlO h' r1 g0.links ∧ Fr h.size r1 ∧ SlO h' r2 g1 ∧ Fr h.size r2 ∧ (∀ b ∈ blks r0, b ∉ blks r1) ∧ (∀ b ∈ blks r0, b ∉ blks r2) ∧ (∀ b ∈ blks r1, b ∉ blks r2) ∧ (g0.towers.length ≤ 20 ∧ g0.links.length ≤ 50 ∧ g1.length ≤ 61) ∧ Ext h h' := by
 have lt_code := s_code.lt
 have l63_code := s_code.len63
 refine calls_of r_spec_DrawAreFogs ?_
 refine v_seq <| v_ops ?_
 refine s_new (fun h2 b1 hbb1 hzb1 eh2 bxb1 => ?_)
 have E3 := (Ext.refl h).trans eh2
 have z4 := eh2.size
 have lbb1 := bxb1.lt
 refine s_pq (.slice none 0 0) <| s_nil <| p_seqN <| v_seq <| v_ops <| s_pq v_code <| s_pure (.agg #[v_code, .int .i64 0, .int .u64 0]) (fun _ q => w_build (seg_sl s_code rfl (seg_nil q))) ?_
 refine s_box [v_code, .int .i64 0, .int .u64 0] rfl (fun h6 b5 hbb5 hzb5 eh6 bxb5 => ?_)
 have E7 := E3.trans eh6
 have z8 := eh6.size
 have lbb5 := bxb5.lt
 refine s_pq (.pointer (some ⟨b5, 0, none⟩)) <| s_nil <| p_seqN <| v_seq <| v_ops <| s_pq (.pointer (some ⟨b5, 0, none⟩)) ?_
 have f9 := ((s_code.ext eh2).ext eh6)
 have C10 : Cur h6 b5 66 0 h.size := Cur.mk2 bxb5 f9 lt_code hby (by omega) (by omega)
 refine s_call [.pointer (some ⟨b5, 0, none⟩)] rfl (spec_l1Cur_foggy_ok b5 66 0 h.size _ C10 (by omega)) ?_
 rintro _ h16 ⟨g11, g14, r12, r13, r15, rfl, s_r12, fr_r12, s_r13, fr_r13, s_r15, fr_r15, ap_r12_r13, ap_r12_r15, ap_r13_r15, qh16, Ch16, mh16⟩
 have zh16 := mh16.size
 have E17 := E7.mod mh16 (fun b hb => by simp at hb; omega)
 refine s_pq (.agg #[r12, r13]) <| s_pq r15 ?_
 have f18 := ((bxb1.ext eh6).mod mh16 (by simp; omega))
 refine s_stBx (.agg #[r12, r13]) [r12, r13] [r12, r13] f18 rfl rfl rfl rfl (by simp) (all_cons s_r12.one1 (all_cons s_r13.one1 all_nil)) rfl (fun h19 mh19 sh19 bxx20 => ?_)
 have E21 := E17.mod mh19 (fun b hb => by simp at hb; omega)
 refine s_pq r15 <| s_nil <| p_seqN <| v_ret <| p_ret [.agg #[r12, r13], r15] (.tuple #[.agg #[r12, r13], r15]) (fun _ q => (bxx20.loadA rfl q)) rfl ?_
 have f22 := (s_r12.mod mh19 (fun b hb hc => by simp at hc; have := fr_r12 b hb; omega))
 have f23 := (s_r13.mod mh19 (fun b hb hc => by simp at hc; have := fr_r13 b hb; omega))
 have f24 := (s_r15.mod mh19 (fun b hb hc => by simp at hc; have := fr_r15 b hb; omega))
 exact ⟨⟨g11.towers, g11.links⟩, g14, r12, r13, r15, rfl, f22, (fr_r12.mono (by omega)), f23, (fr_r13.mono (by omega)), f24, (fr_r15.mono (by omega)), ap_r12_r13, ap_r12_r15, ap_r13_r15, (by (try simp only); first | omega | exact ⟨by omega, by omega⟩ | exact ⟨by omega, by omega, by omega⟩), E21⟩

theorem spec_DrawFoggiestLink_ok (v_code : Value) (code : List By) (h : Heap) (s_code : Sl h v_code code) (hby : ∀ y ∈ code, 0 ≤ y.n ∧ y.n ≤ 255) (hsz : code.length ≤ 2000000) : Cn f_spec_DrawFoggiestLink [v_code] h fun v h' => ∃ g0 : NetP, ∃ g1 : List FogD, ∃ r0 : Value, ∃ r1 : Value, ∃ r2 : Value, v = .tuple #[.agg #[r0, r1], r2] ∧ SlO h' r0 g0.towers ∧ Fr h.size r0 ∧ SlO h' r1 g0.links ∧ Fr h.size r1 ∧ SlO h' r2 g1 ∧ Fr h.size r2 ∧ (∀ b ∈ blks r0, b ∉ blks r1) ∧ (∀ b ∈ blks r0, b ∉ blks r2) ∧ (∀ b ∈ blks r1, b ∉ blks r2) ∧ (g0.towers.length ≤ 20 ∧ g0.links.length ≤ 50 ∧ g1.length ≤ 61) ∧ Ext h h' := by
 have l63_code := s_code.len63
 refine calls_of r_spec_DrawFoggiestLink ?_
 refine v_seq <| v_ops ?_
 refine s_new (fun h2 b1 hbb1 hzb1 eh2 bxb1 => ?_)
 have E3 := (Ext.refl h).trans eh2
 have z4 := eh2.size
 have lbb1 := bxb1.lt
 refine s_pq (.slice none 0 0) <| s_nil <| p_seqN <| v_seq <| v_ops <| s_pq v_code ?_
 have f5 := (s_code.ext eh2)
 refine s_call [v_code] rfl (spec_DrawAreFogs_ok v_code code _ f5 (by first | omega | assumption | (simp; done) | (simp; omega)) (by first | omega | assumption | (simp; done) | (simp; omega))) ?_
 rintro _ h11 ⟨g6, g9, r7, r8, r10, rfl, s_r7, fr_r7, s_r8, fr_r8, s_r10, fr_r10, ap_r7_r8, ap_r7_r10, ap_r8_r10, qh11, eh11⟩
 have E12 := E3.trans eh11
 have z13 := eh11.size
 refine s_pq (.agg #[r7, r8]) <| s_pq r10 ?_
 have f14 := (bxb1.ext eh11)
 refine s_stBx (.agg #[r7, r8]) [r7, r8] [r7, r8] f14 rfl rfl rfl rfl (by simp) (all_cons s_r7.one1 (all_cons s_r8.one1 all_nil)) rfl (fun h15 mh15 sh15 bxx16 => ?_)
 have E17 := E12.mod mh15 (fun b hb => by simp at hb; omega)
 refine s_pq r10 <| s_nil <| p_seqN <| v_ret <| p_ret [.agg #[r7, r8], r10] (.tuple #[.agg #[r7, r8], r10]) (fun _ q => (bxx16.loadA rfl q)) rfl ?_
 have f18 := (s_r7.mod mh15 (fun b hb hc => by simp at hc; have := fr_r7 b hb; omega))
 have f19 := (s_r8.mod mh15 (fun b hb hc => by simp at hc; have := fr_r8 b hb; omega))
 have f20 := (s_r10.mod mh15 (fun b hb hc => by simp at hc; have := fr_r10 b hb; omega))
 exact ⟨⟨g6.towers, g6.links⟩, g9, r7, r8, r10, rfl, f18, (fr_r7.mono (by omega)), f19, (fr_r8.mono (by omega)), f20, (fr_r10.mono (by omega)), ap_r7_r8, ap_r7_r10, ap_r8_r10, (by (try simp only); first | omega | exact ⟨by omega, by omega⟩ | exact ⟨by omega, by omega, by omega⟩), E17⟩

theorem spec_DrawFoggyLinks_ok (v_code : Value) (code : List By) (h : Heap) (s_code : Sl h v_code code) (hby : ∀ y ∈ code, 0 ≤ y.n ∧ y.n ≤ 255) (hsz : code.length ≤ 2000000) : Cn f_spec_DrawFoggyLinks [v_code] h fun v h' => ∃ g0 : NetP, ∃ g1 : List FogD, ∃ g2 : Int, ∃ r0 : Value, ∃ r1 : Value, ∃ r2 : Value, v = .tuple #[.agg #[r0, r1], r2, .int .i64 g2] ∧ SlO h' r0 g0.towers ∧ Fr h.size r0 ∧ SlO h' r1 g0.links ∧ Fr h.size r1 ∧ SlO h' r2 g1 ∧ Fr h.size r2 ∧ (∀ b ∈ blks r0, b ∉ blks r1) ∧ (∀ b ∈ blks r0, b ∉ blks r2) ∧ (∀ b ∈ blks r1, b ∉ blks r2) ∧ (g0.towers.length ≤ 20 ∧ g0.links.length ≤ 50 ∧ g1.length ≤ 61) ∧ Ext h h' := by
 have lt_code := s_code.lt
 have l63_code := s_code.len63
 refine calls_of r_spec_DrawFoggyLinks ?_
 refine v_seq <| v_ops ?_
 refine s_new (fun h2 b1 hbb1 hzb1 eh2 bxb1 => ?_)
 have E3 := (Ext.refl h).trans eh2
 have z4 := eh2.size
 have lbb1 := bxb1.lt
 refine s_pq (.slice none 0 0) <| s_pq (.int .i64 0) <| s_nil <| p_seqN <| v_seq <| v_ops <| s_pq v_code <| s_pure (.agg #[v_code, .int .i64 0, .int .u64 0]) (fun _ q => w_build (seg_sl s_code rfl (seg_nil q))) ?_
 refine s_box [v_code, .int .i64 0, .int .u64 0] rfl (fun h6 b5 hbb5 hzb5 eh6 bxb5 => ?_)
 have E7 := E3.trans eh6
 have z8 := eh6.size
 have lbb5 := bxb5.lt
 refine s_pq (.pointer (some ⟨b5, 0, none⟩)) <| s_nil <| p_seqN <| v_seq <| v_ops <| s_pq (.pointer (some ⟨b5, 0, none⟩)) ?_
 have f9 := ((s_code.ext eh2).ext eh6)
 have C10 : Cur h6 b5 66 0 h.size := Cur.mk2 bxb5 f9 lt_code hby (by omega) (by omega)
 refine s_call [.pointer (some ⟨b5, 0, none⟩)] rfl (spec_l1Cur_foggy_ok b5 66 0 h.size _ C10 (by omega)) ?_
 rintro _ h16 ⟨g11, g14, r12, r13, r15, rfl, s_r12, fr_r12, s_r13, fr_r13, s_r15, fr_r15, ap_r12_r13, ap_r12_r15, ap_r13_r15, qh16, Ch16, mh16⟩
 have zh16 := mh16.size
 have E17 := E7.mod mh16 (fun b hb => by simp at hb; omega)
 have lt_r12 := s_r12.lt
 have lt_r13 := s_r13.lt
 have lt_r15 := s_r15.lt
 refine s_pq (.tuple #[.agg #[r12, r13], r15]) <| s_pq (.agg #[r12, r13]) <| s_pq r15 ?_
 refine s_new (fun h19 b18 hbb18 hzb18 eh19 bxb18 => ?_)
 have E20 := E17.trans eh19
 have z21 := eh19.size
 have lbb18 := bxb18.lt
 refine s_stBx (.agg #[r12, r13]) [r12, r13] [r12, r13] bxb18 rfl rfl rfl rfl (by simp) (all_cons s_r12.one1 (all_cons s_r13.one1 all_nil)) rfl (fun h22 mh22 sh22 bxx23 => ?_)
 have E24 := E20.mod mh22 (fun b hb => by simp at hb; omega)
 refine s_pq r15 <| s_nil <| p_seqN <| v_seq ?_
 refine v_draw (DrawVC.hold ([b18]) ?_)
 refine d_pq r15 <| d_pq (.pointer (some ⟨b5, 0, none⟩)) <| d_loadT (.agg #[r12, r13]) (fun _ q => bxx23.takeA (by simp) rfl q) <| d_eff ?_
 have f25 := ((Ch16.ext eh19).mod mh22 (by simp; omega) (fun b hb => by simp at hb; omega))
 refine s_call [.pointer (some ⟨b5, 0, none⟩)] rfl (spec_l1Cur_second_ok b5 66 (0 + 12000) h.size _ f25 (by omega)) ?_
 rintro _ h27 ⟨g26, rfl, qh27, Ch27, mh27⟩
 have zh27 := mh27.size
 have E28 := E24.mod mh27 (fun b hb => by simp at hb; omega)
 have G29 := gmod1 (b := b18) (h := h22) (h0 := h22) mh27 (by omega) (by simp; omega) (fun _ _ => rfl)
 refine s_nil ⟨fun _ x hx => G29 x hx, ?_⟩
 refine d_eff ?_
 have f30 := (((((bxb1.ext eh6).mod mh16 (by simp; omega)).ext eh19).mod mh22 (by simp; omega)).mod mh27 (by simp; omega))
 refine s_stBx (.agg #[r12, r13]) [r12, r13] [r12, r13] f30 rfl rfl rfl rfl (by simp) (all_cons s_r12.one1 (all_cons s_r13.one1 all_nil)) rfl (fun h31 mh31 sh31 bxx32 => ?_)
 have E33 := E28.mod mh31 (fun b hb => by simp at hb; omega)
 refine s_nil ⟨fun hl => (by cases hl), ?_⟩
 refine d_pq r15 <| d_pq (.int .i64 g26) <| d_done <| p_seqN <| v_ret <| p_ret [.agg #[r12, r13], r15, .int .i64 g26] (.tuple #[.agg #[r12, r13], r15, .int .i64 g26]) (fun _ q => (bxx32.loadA rfl q)) rfl ?_
 have f34 := ((((s_r12.ext eh19).mod mh22 (fun b hb hc => by simp at hc; have := lt_r12 b hb; omega)).mod mh27 (fun b hb hc => by simp at hc; have := fr_r12 b hb; omega)).mod mh31 (fun b hb hc => by simp at hc; have := fr_r12 b hb; omega))
 have f35 := ((((s_r13.ext eh19).mod mh22 (fun b hb hc => by simp at hc; have := lt_r13 b hb; omega)).mod mh27 (fun b hb hc => by simp at hc; have := fr_r13 b hb; omega)).mod mh31 (fun b hb hc => by simp at hc; have := fr_r13 b hb; omega))
 have f36 := ((((s_r15.ext eh19).mod mh22 (fun b hb hc => by simp at hc; have := lt_r15 b hb; omega)).mod mh27 (fun b hb hc => by simp at hc; have := fr_r15 b hb; omega)).mod mh31 (fun b hb hc => by simp at hc; have := fr_r15 b hb; omega))
 exact ⟨⟨g11.towers, g11.links⟩, g14, g26, r12, r13, r15, rfl, f34, (fr_r12.mono (by omega)), f35, (fr_r13.mono (by omega)), f36, (fr_r15.mono (by omega)), ap_r12_r13, ap_r12_r15, ap_r13_r15, (by (try simp only); first | omega | exact ⟨by omega, by omega⟩ | exact ⟨by omega, by omega, by omega⟩), E33⟩

set_option maxRecDepth 10000 in
set_option maxHeartbeats 4000000 in
theorem spec_DrawEarliestStart_ok (v_code : Value) (code : List By) (h : Heap) (s_code : Sl h v_code code) (hby : ∀ y ∈ code, 0 ≤ y.n ∧ y.n ≤ 255) (hsz : code.length ≤ 2000000) : Cn f_spec_DrawEarliestStart [v_code] h fun v h' => ∃ g0 : NetP, ∃ g1 : List FogD, ∃ g2 : Int, ∃ g3 : Int, ∃ g4 : Int, ∃ r0 : Value, ∃ r1 : Value, ∃ r2 : Value, v = .tuple #[.agg #[r0, r1], r2, .int .i64 g2, .int .i64 g3, .int .i64 g4] ∧ SlO h' r0 g0.towers ∧ Fr h.size r0 ∧ SlO h' r1 g0.links ∧ Fr h.size r1 ∧ SlO h' r2 g1 ∧ Fr h.size r2 ∧ (∀ b ∈ blks r0, b ∉ blks r1) ∧ (∀ b ∈ blks r0, b ∉ blks r2) ∧ (∀ b ∈ blks r1, b ∉ blks r2) ∧ (g0.towers.length ≤ 20 ∧ g0.links.length ≤ 50 ∧ g1.length ≤ 61) ∧ Ext h h' := by
 have lt_code := s_code.lt
 have l63_code := s_code.len63
 refine calls_of r_spec_DrawEarliestStart ?_
 refine v_seq <| v_ops ?_
 refine s_new (fun h2 b1 hbb1 hzb1 eh2 bxb1 => ?_)
 have E3 := (Ext.refl h).trans eh2
 have z4 := eh2.size
 have lbb1 := bxb1.lt
 refine s_pq (.slice none 0 0) <| s_pq (.int .i64 0) <| s_pq (.int .i64 0) <| s_pq (.int .i64 0) <| s_nil <| p_seqN <| v_seq <| v_ops <| s_pq v_code <| s_pure (.agg #[v_code, .int .i64 0, .int .u64 0]) (fun _ q => w_build (seg_sl s_code rfl (seg_nil q))) ?_
 refine s_box [v_code, .int .i64 0, .int .u64 0] rfl (fun h6 b5 hbb5 hzb5 eh6 bxb5 => ?_)
 have E7 := E3.trans eh6
 have z8 := eh6.size
 have lbb5 := bxb5.lt
 refine s_pq (.pointer (some ⟨b5, 0, none⟩)) <| s_nil <| p_seqN <| v_seq <| v_ops <| s_pq (.pointer (some ⟨b5, 0, none⟩)) ?_
 have f9 := ((s_code.ext eh2).ext eh6)
 have C10 : Cur h6 b5 66 0 h.size := Cur.mk2 bxb5 f9 lt_code hby (by omega) (by omega)
 refine s_call [.pointer (some ⟨b5, 0, none⟩)] rfl (spec_l1Cur_foggy_ok b5 66 0 h.size _ C10 (by omega)) ?_
 rintro _ h16 ⟨g11, g14, r12, r13, r15, rfl, s_r12, fr_r12, s_r13, fr_r13, s_r15, fr_r15, ap_r12_r13, ap_r12_r15, ap_r13_r15, qh16, Ch16, mh16⟩
 have zh16 := mh16.size
 have E17 := E7.mod mh16 (fun b hb => by simp at hb; omega)
 have lt_r12 := s_r12.lt
 have lt_r13 := s_r13.lt
 have lt_r15 := s_r15.lt
 refine s_pq (.tuple #[.agg #[r12, r13], r15]) <| s_pq (.agg #[r12, r13]) <| s_pq r15 ?_
 refine s_new (fun h19 b18 hbb18 hzb18 eh19 bxb18 => ?_)
 have E20 := E17.trans eh19
 have z21 := eh19.size
 have lbb18 := bxb18.lt
 refine s_stBx (.agg #[r12, r13]) [r12, r13] [r12, r13] bxb18 rfl rfl rfl rfl (by simp) (all_cons s_r12.one1 (all_cons s_r13.one1 all_nil)) rfl (fun h22 mh22 sh22 bxx23 => ?_)
 have E24 := E20.mod mh22 (fun b hb => by simp at hb; omega)
 refine s_pq r15 <| s_nil <| p_seqN <| v_seq ?_
 refine v_draw (DrawVC.hold ([b18]) ?_)
 refine d_pq r15 <| d_pq (.pointer (some ⟨b5, 0, none⟩)) <| d_pq (.pointer (some ⟨b5, 0, none⟩)) <| d_pq (.pointer (some ⟨b5, 0, none⟩)) <| d_pq (.pointer (some ⟨b5, 0, none⟩)) <| d_loadT (.agg #[r12, r13]) (fun _ q => bxx23.takeA (by simp) rfl q) <| d_loadT (.agg #[r12, r13]) (fun _ q => bxx23.takeA (by simp) rfl q) ?_
 refine d_fork ?_ ?_
 ·
  refine d_eff ?_
  have f25 := ((Ch16.ext eh19).mod mh22 (by simp; omega) (fun b hb => by simp at hb; omega))
  have f26 := ((s_r12.ext eh19).mod mh22 (fun b hb hc => by simp at hc; have := lt_r12 b hb; omega))
  have f27 := ((s_r13.ext eh19).mod mh22 (fun b hb hc => by simp at hc; have := lt_r13 b hb; omega))
  refine s_call [.pointer (some ⟨b5, 0, none⟩), .agg #[r12, r13]] rfl (spec_l1Cur_link_ok b5 66 (0 + 12000) h.size g11 r12 r13 _ f25 f26.toSl (fun b hb hc => by simp at hc; have := fr_r12 b hb; omega) f27.toSl (fun b hb hc => by simp at hc; have := fr_r13 b hb; omega) (by omega) (by first | omega | assumption | (simp; done) | (simp; omega))) ?_
  rintro _ h29 ⟨g28, rfl, qh29, Ch29, mh29⟩
  have zh29 := mh29.size
  have E30 := E24.mod mh29 (fun b hb => by simp at hb; omega)
  have G31 := gmod1 (b := b18) (h := h22) (h0 := h22) mh29 (by omega) (by simp; omega) (fun _ _ => rfl)
  refine s_nil ⟨fun _ x hx => G31 x hx, ?_⟩
  refine d_fork ?_ ?_
  ·
   refine d_eff <| s_call [.pointer (some ⟨b5, 0, none⟩)] rfl (spec_l1Cur_second_ok b5 66 ((0 + 12000) + 20) h.size _ Ch29 (by omega)) ?_
   rintro _ h33 ⟨g32, rfl, qh33, Ch33, mh33⟩
   have zh33 := mh33.size
   have E34 := E30.mod mh33 (fun b hb => by simp at hb; omega)
   have G35 := gmod1 (b := b18) (h := h29) (h0 := h22) mh33 (by omega) (by simp; omega) G31
   refine s_nil ⟨fun _ x hx => G35 x hx, ?_⟩
   refine d_eff ?_
   refine s_row (α := Int) [1001, 0] (fun _ q => seg_i rfl (seg_i rfl (seg_nil q))) rfl (by simp [maxLen]) (fun r36 h37 eh37 zh37 s_r36 fr_r36 => ?_)
   have E38 := E34.trans eh37
   have z39 := eh37.size
   have G40 := gext1 eh37 (by omega) G35
   refine s_nil ⟨fun _ x hx => G40 x hx, ?_⟩
   refine d_eff ?_
   have f41 := (Ch33.ext eh37)
   refine s_call [.pointer (some ⟨b5, 0, none⟩), r36] rfl (spec_l1Cur_among_ok b5 66 (((0 + 12000) + 20) + 20) h.size r36 [1001, 0] _ f41 s_r36.toSl (fun b hb hc => by simp at hc; have := fr_r36 b hb; omega) (by omega) (by first | omega | assumption | (simp; done) | (simp; omega))) ?_
   rintro _ h43 ⟨g42, rfl, qh43, Ch43, mh43⟩
   have zh43 := mh43.size
   have E44 := E38.mod mh43 (fun b hb => by simp at hb; omega)
   have G45 := gmod1 (b := b18) (h := h37) (h0 := h22) mh43 (by omega) (by simp; omega) G40
   simp only [List.mem_cons, List.not_mem_nil, or_false] at qh43
   refine s_nil ⟨fun _ x hx => G45 x hx, ?_⟩
   refine d_eff ?_
   refine s_row (α := Int) [1, 5, 6, 20, 1000, g42] (fun _ q => seg_i rfl (seg_i rfl (seg_i rfl (seg_i rfl (seg_i rfl (seg_i rfl (seg_nil q))))))) rfl (by simp [maxLen]) (fun r46 h47 eh47 zh47 s_r46 fr_r46 => ?_)
   have E48 := E44.trans eh47
   have z49 := eh47.size
   have G50 := gext1 eh47 (by omega) G45
   refine s_nil ⟨fun _ x hx => G50 x hx, ?_⟩
   refine d_eff ?_
   have f51 := (Ch43.ext eh47)
   refine s_call [.pointer (some ⟨b5, 0, none⟩), r46] rfl (spec_l1Cur_among_ok b5 66 ((((0 + 12000) + 20) + 20) + 2) h.size r46 [1, 5, 6, 20, 1000, g42] _ f51 s_r46.toSl (fun b hb hc => by simp at hc; have := fr_r46 b hb; omega) (by omega) (by first | omega | assumption | (simp; done) | (simp; omega))) ?_
   rintro _ h53 ⟨g52, rfl, qh53, Ch53, mh53⟩
   have zh53 := mh53.size
   have E54 := E48.mod mh53 (fun b hb => by simp at hb; omega)
   have G55 := gmod1 (b := b18) (h := h47) (h0 := h22) mh53 (by omega) (by simp; omega) G50
   simp only [List.mem_cons, List.not_mem_nil, or_false] at qh53
   refine s_nil ⟨fun _ x hx => G55 x hx, ?_⟩
   refine d_eff ?_
   have f56 := ((((((((((bxb1.ext eh6).mod mh16 (by simp; omega)).ext eh19).mod mh22 (by simp; omega)).mod mh29 (by simp; omega)).mod mh33 (by simp; omega)).ext eh37).mod mh43 (by simp; omega)).ext eh47).mod mh53 (by simp; omega))
   refine s_stBx (.agg #[r12, r13]) [r12, r13] [r12, r13] f56 rfl rfl rfl rfl (by simp) (all_cons f26.one1 (all_cons f27.one1 all_nil)) rfl (fun h57 mh57 sh57 bxx58 => ?_)
   have E59 := E54.mod mh57 (fun b hb => by simp at hb; omega)
   refine s_nil ⟨fun hl => (by cases hl), ?_⟩
   refine d_pq r15 <| d_pq (.int .i64 g28) <| d_pq (.int .i64 g32) <| d_pq (.int .i64 g52) <| d_done <| p_seqN <| v_ret <| p_ret [.agg #[r12, r13], r15, .int .i64 g28, .int .i64 g32, .int .i64 g52] (.tuple #[.agg #[r12, r13], r15, .int .i64 g28, .int .i64 g32, .int .i64 g52]) (fun _ q => (bxx58.loadA rfl q)) rfl ?_
   have f60 := (((((((f26.mod mh29 (fun b hb hc => by simp at hc; have := fr_r12 b hb; omega)).mod mh33 (fun b hb hc => by simp at hc; have := fr_r12 b hb; omega)).ext eh37).mod mh43 (fun b hb hc => by simp at hc; have := fr_r12 b hb; omega)).ext eh47).mod mh53 (fun b hb hc => by simp at hc; have := fr_r12 b hb; omega)).mod mh57 (fun b hb hc => by simp at hc; have := fr_r12 b hb; omega))
   have f61 := (((((((f27.mod mh29 (fun b hb hc => by simp at hc; have := fr_r13 b hb; omega)).mod mh33 (fun b hb hc => by simp at hc; have := fr_r13 b hb; omega)).ext eh37).mod mh43 (fun b hb hc => by simp at hc; have := fr_r13 b hb; omega)).ext eh47).mod mh53 (fun b hb hc => by simp at hc; have := fr_r13 b hb; omega)).mod mh57 (fun b hb hc => by simp at hc; have := fr_r13 b hb; omega))
   have f62 := (((((((((s_r15.ext eh19).mod mh22 (fun b hb hc => by simp at hc; have := lt_r15 b hb; omega)).mod mh29 (fun b hb hc => by simp at hc; have := fr_r15 b hb; omega)).mod mh33 (fun b hb hc => by simp at hc; have := fr_r15 b hb; omega)).ext eh37).mod mh43 (fun b hb hc => by simp at hc; have := fr_r15 b hb; omega)).ext eh47).mod mh53 (fun b hb hc => by simp at hc; have := fr_r15 b hb; omega)).mod mh57 (fun b hb hc => by simp at hc; have := fr_r15 b hb; omega))
   exact ⟨⟨g11.towers, g11.links⟩, g14, g28, g32, g52, r12, r13, r15, rfl, f60, (fr_r12.mono (by omega)), f61, (fr_r13.mono (by omega)), f62, (fr_r15.mono (by omega)), ap_r12_r13, ap_r12_r15, ap_r13_r15, (by (try simp only); first | omega | exact ⟨by omega, by omega⟩ | exact ⟨by omega, by omega, by omega⟩), E59⟩
  refine d_eff ?_
  refine s_row (α := Int) [1001, 0] (fun _ q => seg_i rfl (seg_i rfl (seg_nil q))) rfl (by simp [maxLen]) (fun r63 h64 eh64 zh64 s_r63 fr_r63 => ?_)
  have E65 := E30.trans eh64
  have z66 := eh64.size
  have G67 := gext1 eh64 (by omega) G31
  refine s_nil ⟨fun _ x hx => G67 x hx, ?_⟩
  refine d_eff ?_
  have f68 := (Ch29.ext eh64)
  refine s_call [.pointer (some ⟨b5, 0, none⟩)] rfl (spec_l1Cur_second_ok b5 66 ((0 + 12000) + 20) h.size _ f68 (by omega)) ?_
  rintro _ h70 ⟨g69, rfl, qh70, Ch70, mh70⟩
  have zh70 := mh70.size
  have E71 := E65.mod mh70 (fun b hb => by simp at hb; omega)
  have G72 := gmod1 (b := b18) (h := h64) (h0 := h22) mh70 (by omega) (by simp; omega) G67
  refine s_nil ⟨fun _ x hx => G72 x hx, ?_⟩
  refine d_eff ?_
  have f73 := (s_r63.mod mh70 (fun b hb hc => by simp at hc; have := fr_r63 b hb; omega))
  refine s_call [.pointer (some ⟨b5, 0, none⟩), r63] rfl (spec_l1Cur_among_ok b5 66 (((0 + 12000) + 20) + 20) h.size r63 [1001, 0] _ Ch70 f73.toSl (fun b hb hc => by simp at hc; have := fr_r63 b hb; omega) (by omega) (by first | omega | assumption | (simp; done) | (simp; omega))) ?_
  rintro _ h75 ⟨g74, rfl, qh75, Ch75, mh75⟩
  have zh75 := mh75.size
  have E76 := E71.mod mh75 (fun b hb => by simp at hb; omega)
  have G77 := gmod1 (b := b18) (h := h70) (h0 := h22) mh75 (by omega) (by simp; omega) G72
  simp only [List.mem_cons, List.not_mem_nil, or_false] at qh75
  refine s_nil ⟨fun _ x hx => G77 x hx, ?_⟩
  refine d_eff ?_
  refine s_row (α := Int) [1, 5, 6, 20, 1000, g74] (fun _ q => seg_i rfl (seg_i rfl (seg_i rfl (seg_i rfl (seg_i rfl (seg_i rfl (seg_nil q))))))) rfl (by simp [maxLen]) (fun r78 h79 eh79 zh79 s_r78 fr_r78 => ?_)
  have E80 := E76.trans eh79
  have z81 := eh79.size
  have G82 := gext1 eh79 (by omega) G77
  refine s_nil ⟨fun _ x hx => G82 x hx, ?_⟩
  refine d_eff ?_
  have f83 := (Ch75.ext eh79)
  refine s_call [.pointer (some ⟨b5, 0, none⟩), r78] rfl (spec_l1Cur_among_ok b5 66 ((((0 + 12000) + 20) + 20) + 2) h.size r78 [1, 5, 6, 20, 1000, g74] _ f83 s_r78.toSl (fun b hb hc => by simp at hc; have := fr_r78 b hb; omega) (by omega) (by first | omega | assumption | (simp; done) | (simp; omega))) ?_
  rintro _ h85 ⟨g84, rfl, qh85, Ch85, mh85⟩
  have zh85 := mh85.size
  have E86 := E80.mod mh85 (fun b hb => by simp at hb; omega)
  have G87 := gmod1 (b := b18) (h := h79) (h0 := h22) mh85 (by omega) (by simp; omega) G82
  simp only [List.mem_cons, List.not_mem_nil, or_false] at qh85
  refine s_nil ⟨fun _ x hx => G87 x hx, ?_⟩
  refine d_eff ?_
  have f88 := ((((((((((bxb1.ext eh6).mod mh16 (by simp; omega)).ext eh19).mod mh22 (by simp; omega)).mod mh29 (by simp; omega)).ext eh64).mod mh70 (by simp; omega)).mod mh75 (by simp; omega)).ext eh79).mod mh85 (by simp; omega))
  refine s_stBx (.agg #[r12, r13]) [r12, r13] [r12, r13] f88 rfl rfl rfl rfl (by simp) (all_cons f26.one1 (all_cons f27.one1 all_nil)) rfl (fun h89 mh89 sh89 bxx90 => ?_)
  have E91 := E86.mod mh89 (fun b hb => by simp at hb; omega)
  refine s_nil ⟨fun hl => (by cases hl), ?_⟩
  refine d_pq r15 <| d_pq (.int .i64 g28) <| d_pq (.int .i64 g69) <| d_pq (.int .i64 g84) <| d_done <| p_seqN <| v_ret <| p_ret [.agg #[r12, r13], r15, .int .i64 g28, .int .i64 g69, .int .i64 g84] (.tuple #[.agg #[r12, r13], r15, .int .i64 g28, .int .i64 g69, .int .i64 g84]) (fun _ q => (bxx90.loadA rfl q)) rfl ?_
  have f92 := (((((((f26.mod mh29 (fun b hb hc => by simp at hc; have := fr_r12 b hb; omega)).ext eh64).mod mh70 (fun b hb hc => by simp at hc; have := fr_r12 b hb; omega)).mod mh75 (fun b hb hc => by simp at hc; have := fr_r12 b hb; omega)).ext eh79).mod mh85 (fun b hb hc => by simp at hc; have := fr_r12 b hb; omega)).mod mh89 (fun b hb hc => by simp at hc; have := fr_r12 b hb; omega))
  have f93 := (((((((f27.mod mh29 (fun b hb hc => by simp at hc; have := fr_r13 b hb; omega)).ext eh64).mod mh70 (fun b hb hc => by simp at hc; have := fr_r13 b hb; omega)).mod mh75 (fun b hb hc => by simp at hc; have := fr_r13 b hb; omega)).ext eh79).mod mh85 (fun b hb hc => by simp at hc; have := fr_r13 b hb; omega)).mod mh89 (fun b hb hc => by simp at hc; have := fr_r13 b hb; omega))
  have f94 := (((((((((s_r15.ext eh19).mod mh22 (fun b hb hc => by simp at hc; have := lt_r15 b hb; omega)).mod mh29 (fun b hb hc => by simp at hc; have := fr_r15 b hb; omega)).ext eh64).mod mh70 (fun b hb hc => by simp at hc; have := fr_r15 b hb; omega)).mod mh75 (fun b hb hc => by simp at hc; have := fr_r15 b hb; omega)).ext eh79).mod mh85 (fun b hb hc => by simp at hc; have := fr_r15 b hb; omega)).mod mh89 (fun b hb hc => by simp at hc; have := fr_r15 b hb; omega))
  exact ⟨⟨g11.towers, g11.links⟩, g14, g28, g69, g84, r12, r13, r15, rfl, f92, (fr_r12.mono (by omega)), f93, (fr_r13.mono (by omega)), f94, (fr_r15.mono (by omega)), ap_r12_r13, ap_r12_r15, ap_r13_r15, (by (try simp only); first | omega | exact ⟨by omega, by omega⟩ | exact ⟨by omega, by omega, by omega⟩), E91⟩
 refine d_eff ?_
 refine s_row (α := Int) [1001, 0] (fun _ q => seg_i rfl (seg_i rfl (seg_nil q))) rfl (by simp [maxLen]) (fun r95 h96 eh96 zh96 s_r95 fr_r95 => ?_)
 have E97 := E24.trans eh96
 have z98 := eh96.size
 have G99 := eh96
 refine s_nil ⟨fun _ x hx => G99.blk x (by simp at hx; omega), ?_⟩
 refine d_eff ?_
 have f100 := (((Ch16.ext eh19).mod mh22 (by simp; omega) (fun b hb => by simp at hb; omega)).ext eh96)
 have f101 := (((s_r12.ext eh19).mod mh22 (fun b hb hc => by simp at hc; have := lt_r12 b hb; omega)).ext eh96)
 have f102 := (((s_r13.ext eh19).mod mh22 (fun b hb hc => by simp at hc; have := lt_r13 b hb; omega)).ext eh96)
 refine s_call [.pointer (some ⟨b5, 0, none⟩), .agg #[r12, r13]] rfl (spec_l1Cur_link_ok b5 66 (0 + 12000) h.size g11 r12 r13 _ f100 f101.toSl (fun b hb hc => by simp at hc; have := fr_r12 b hb; omega) f102.toSl (fun b hb hc => by simp at hc; have := fr_r13 b hb; omega) (by omega) (by first | omega | assumption | (simp; done) | (simp; omega))) ?_
 rintro _ h104 ⟨g103, rfl, qh104, Ch104, mh104⟩
 have zh104 := mh104.size
 have E105 := E97.mod mh104 (fun b hb => by simp at hb; omega)
 have G106 := gmod1 (b := b18) (h := h96) (h0 := h22) mh104 (by omega) (by simp; omega) (fun x hx => G99.blk x (by simp at hx; omega))
 refine s_nil ⟨fun _ x hx => G106 x hx, ?_⟩
 refine d_eff <| s_call [.pointer (some ⟨b5, 0, none⟩)] rfl (spec_l1Cur_second_ok b5 66 ((0 + 12000) + 20) h.size _ Ch104 (by omega)) ?_
 rintro _ h108 ⟨g107, rfl, qh108, Ch108, mh108⟩
 have zh108 := mh108.size
 have E109 := E105.mod mh108 (fun b hb => by simp at hb; omega)
 have G110 := gmod1 (b := b18) (h := h104) (h0 := h22) mh108 (by omega) (by simp; omega) G106
 refine s_nil ⟨fun _ x hx => G110 x hx, ?_⟩
 refine d_eff ?_
 have f111 := ((s_r95.mod mh104 (fun b hb hc => by simp at hc; have := fr_r95 b hb; omega)).mod mh108 (fun b hb hc => by simp at hc; have := fr_r95 b hb; omega))
 refine s_call [.pointer (some ⟨b5, 0, none⟩), r95] rfl (spec_l1Cur_among_ok b5 66 (((0 + 12000) + 20) + 20) h.size r95 [1001, 0] _ Ch108 f111.toSl (fun b hb hc => by simp at hc; have := fr_r95 b hb; omega) (by omega) (by first | omega | assumption | (simp; done) | (simp; omega))) ?_
 rintro _ h113 ⟨g112, rfl, qh113, Ch113, mh113⟩
 have zh113 := mh113.size
 have E114 := E109.mod mh113 (fun b hb => by simp at hb; omega)
 have G115 := gmod1 (b := b18) (h := h108) (h0 := h22) mh113 (by omega) (by simp; omega) G110
 simp only [List.mem_cons, List.not_mem_nil, or_false] at qh113
 refine s_nil ⟨fun _ x hx => G115 x hx, ?_⟩
 refine d_eff ?_
 refine s_row (α := Int) [1, 5, 6, 20, 1000, g112] (fun _ q => seg_i rfl (seg_i rfl (seg_i rfl (seg_i rfl (seg_i rfl (seg_i rfl (seg_nil q))))))) rfl (by simp [maxLen]) (fun r116 h117 eh117 zh117 s_r116 fr_r116 => ?_)
 have E118 := E114.trans eh117
 have z119 := eh117.size
 have G120 := gext1 eh117 (by omega) G115
 refine s_nil ⟨fun _ x hx => G120 x hx, ?_⟩
 refine d_eff ?_
 have f121 := (Ch113.ext eh117)
 refine s_call [.pointer (some ⟨b5, 0, none⟩), r116] rfl (spec_l1Cur_among_ok b5 66 ((((0 + 12000) + 20) + 20) + 2) h.size r116 [1, 5, 6, 20, 1000, g112] _ f121 s_r116.toSl (fun b hb hc => by simp at hc; have := fr_r116 b hb; omega) (by omega) (by first | omega | assumption | (simp; done) | (simp; omega))) ?_
 rintro _ h123 ⟨g122, rfl, qh123, Ch123, mh123⟩
 have zh123 := mh123.size
 have E124 := E118.mod mh123 (fun b hb => by simp at hb; omega)
 have G125 := gmod1 (b := b18) (h := h117) (h0 := h22) mh123 (by omega) (by simp; omega) G120
 simp only [List.mem_cons, List.not_mem_nil, or_false] at qh123
 refine s_nil ⟨fun _ x hx => G125 x hx, ?_⟩
 refine d_eff ?_
 have f126 := ((((((((((bxb1.ext eh6).mod mh16 (by simp; omega)).ext eh19).mod mh22 (by simp; omega)).ext eh96).mod mh104 (by simp; omega)).mod mh108 (by simp; omega)).mod mh113 (by simp; omega)).ext eh117).mod mh123 (by simp; omega))
 refine s_stBx (.agg #[r12, r13]) [r12, r13] [r12, r13] f126 rfl rfl rfl rfl (by simp) (all_cons f101.one1 (all_cons f102.one1 all_nil)) rfl (fun h127 mh127 sh127 bxx128 => ?_)
 have E129 := E124.mod mh127 (fun b hb => by simp at hb; omega)
 refine s_nil ⟨fun hl => (by cases hl), ?_⟩
 refine d_pq r15 <| d_pq (.int .i64 g103) <| d_pq (.int .i64 g107) <| d_pq (.int .i64 g122) <| d_done <| p_seqN <| v_ret <| p_ret [.agg #[r12, r13], r15, .int .i64 g103, .int .i64 g107, .int .i64 g122] (.tuple #[.agg #[r12, r13], r15, .int .i64 g103, .int .i64 g107, .int .i64 g122]) (fun _ q => (bxx128.loadA rfl q)) rfl ?_
 have f130 := ((((((f101.mod mh104 (fun b hb hc => by simp at hc; have := fr_r12 b hb; omega)).mod mh108 (fun b hb hc => by simp at hc; have := fr_r12 b hb; omega)).mod mh113 (fun b hb hc => by simp at hc; have := fr_r12 b hb; omega)).ext eh117).mod mh123 (fun b hb hc => by simp at hc; have := fr_r12 b hb; omega)).mod mh127 (fun b hb hc => by simp at hc; have := fr_r12 b hb; omega))
 have f131 := ((((((f102.mod mh104 (fun b hb hc => by simp at hc; have := fr_r13 b hb; omega)).mod mh108 (fun b hb hc => by simp at hc; have := fr_r13 b hb; omega)).mod mh113 (fun b hb hc => by simp at hc; have := fr_r13 b hb; omega)).ext eh117).mod mh123 (fun b hb hc => by simp at hc; have := fr_r13 b hb; omega)).mod mh127 (fun b hb hc => by simp at hc; have := fr_r13 b hb; omega))
 have f132 := (((((((((s_r15.ext eh19).mod mh22 (fun b hb hc => by simp at hc; have := lt_r15 b hb; omega)).ext eh96).mod mh104 (fun b hb hc => by simp at hc; have := fr_r15 b hb; omega)).mod mh108 (fun b hb hc => by simp at hc; have := fr_r15 b hb; omega)).mod mh113 (fun b hb hc => by simp at hc; have := fr_r15 b hb; omega)).ext eh117).mod mh123 (fun b hb hc => by simp at hc; have := fr_r15 b hb; omega)).mod mh127 (fun b hb hc => by simp at hc; have := fr_r15 b hb; omega))
 exact ⟨⟨g11.towers, g11.links⟩, g14, g103, g107, g122, r12, r13, r15, rfl, f130, (fr_r12.mono (by omega)), f131, (fr_r13.mono (by omega)), f132, (fr_r15.mono (by omega)), ap_r12_r13, ap_r12_r15, ap_r13_r15, (by (try simp only); first | omega | exact ⟨by omega, by omega⟩ | exact ⟨by omega, by omega, by omega⟩), E129⟩

end Go.Proofs.Ytloicopmcagikaa


/- Plain facts for the law of fogs: clear windows and seconds of fog fill a range; the next clear second; a fog added. Condition: none. -/
namespace Go.Proofs.Ytloicopmcagikaa
open Go.Vc
set_option linter.all false
theorem ov_zero {x : FogD} {a b : Int} (h : x.til ≤ a ∨ b ≤ x.fr) : ov x a b = 0 := by
 unfold ov
 refine if_neg ?_
 split <;> split <;> omega
theorem ov_in {x : FogD} {a b : Int} (h0 : a < x.til) (h1 : x.fr < b) (h2 : x.fr < x.til) (hab : a ≤ b) : ov x a b = (if x.til < b then x.til else b) - (if x.fr > a then x.fr else a) := by
 have hp : 0 ≤ (if x.til < b then x.til else b) - (if x.fr > a then x.fr else a) := by split <;> split <;> omega
 unfold ov
 generalize (if x.til < b then x.til else b) - (if x.fr > a then x.fr else a) = p at *
 split <;> omega
end Go.Proofs.Ytloicopmcagikaa


/- Contracts and facts wanted by the law of fogs. Condition: none. Printed in part by a program. -/
namespace Go.Proofs.Ytloicopmcagikaa
open Go.Vc
set_option linter.all false

theorem q_step {α : Type} {a b : List α} {k : Nat} {x y : α} (h : a.take k = b.take k) (hx : a[k]? = some x) (hy : b[k]? = some y) (e : x = y) : a.take (k + 1) = b.take (k + 1) := by
 rw [List.take_add_one, List.take_add_one, h, hx, hy, e]
theorem q_done {α : Type} {a b : List α} {k : Nat} (h : a.take k = b.take k) (hk : ¬ (k : Int) < (a.length : Int)) (hl : (a.length : Int) = (b.length : Int)) : a = b := by
 rw [List.take_of_length_le (by omega), List.take_of_length_le (by omega)] at h; exact h
theorem q_ne {α : Type} {a b : List α} {k : Nat} {x y : α} (hx : a[k]? = some x) (hy : b[k]? = some y) (h : ¬ x = y) : a ≠ b := fun e => by
 subst e; rw [hx] at hy; exact h (Option.some.inj hy)
theorem laws_big_ok (v_code : Value) (code : List By) (v_more : Value) (more : List By) (h : Heap) (s_code : Sl h v_code code) (s_more : Sl h v_more more) : Cn f_laws_big [v_code, v_more] h fun v h' => v = .bool (decide (1048576 < code.length + more.length)) ∧ Ext h h' := by
 have l63_code := s_code.len63
 have l63_more := s_more.len63
 refine calls_of r_laws_big ?_
 refine v_seq <| v_ops <| s_pq (.bool false) <| s_nil <| p_seqN <| v_seq <| v_ops <| s_pq v_code <| s_pure (.int .i64 (code.length : Int)) (fun _ q => s_code.lenVC q) <| s_pq (.bool (decide ((code.length : Int) > 1048576))) <| s_pq (.bool (decide ((code.length : Int) > 1048576))) ?_
 refine s_splitT rfl (fun c1 => ?_) (fun c1 => ?_)
 ·
  refine s_pass rfl <| s_pass rfl <| s_pass rfl <| s_pass rfl <| s_pass rfl <| s_pass rfl <| s_pq (.bool true) <| s_pq (.bool true) <| s_nil <| p_seqN <| v_ret <| p_ret [.bool true] (.bool true) (fun _ q => q) rfl ?_
  have ho : (decide (1048576 < code.length + more.length)) = true := by first | exact decide_eq_true (by omega) | exact decide_eq_decide.2 (by omega)
  exact ⟨by first | (rw [ho]; done) | rfl, (Ext.refl h)⟩
 refine s_run rfl <| s_pq v_more <| s_run rfl <| s_pure (.int .i64 (more.length : Int)) (fun _ q => s_more.lenVC q) <| s_run rfl <| s_pq v_code <| s_run rfl <| s_pure (.int .i64 (code.length : Int)) (fun _ q => s_code.lenVC q) <| s_run rfl <| s_pure (.int .i64 (1048576 - (code.length : Int))) (fun _ q => ArithVC.mk (by omega) q) <| s_run rfl <| s_pq (.bool (decide ((more.length : Int) > (1048576 - (code.length : Int))))) <| s_pq (.bool (decide ((more.length : Int) > (1048576 - (code.length : Int))))) ?_
 refine s_pq (.bool (decide ((more.length : Int) > (1048576 - (code.length : Int))))) <| s_nil <| p_seqN <| v_ret <| p_ret [.bool (decide ((more.length : Int) > (1048576 - (code.length : Int))))] (.bool (decide ((more.length : Int) > (1048576 - (code.length : Int))))) (fun _ q => q) rfl ?_
 have ho : (decide (1048576 < code.length + more.length)) = (decide ((more.length : Int) > (1048576 - (code.length : Int)))) := by first | exact decide_eq_true (by omega) | exact decide_eq_decide.2 (by omega)
 exact ⟨by first | (rw [ho]; done) | rfl, (Ext.refl h)⟩

theorem laws_sameInts_ok (v_a : Value) (a : List Int) (v_b : Value) (b : List Int) (h : Heap) (s_a : Sl h v_a a) (s_b : Sl h v_b b) : Cn f_laws_sameInts [v_a, v_b] h fun v h' => v = .bool (decide (a = b)) ∧ Ext h h' := by
 have l63_a := s_a.len63
 have l63_b := s_b.len63
 refine calls_of r_laws_sameInts ?_
 refine v_seq <| v_ops <| s_pq (.bool false) <| s_nil <| p_seqN <| v_seq <| v_seq <| v_ops <| s_pq v_a <| s_pure (.int .i64 (a.length : Int)) (fun _ q => s_a.lenVC q) <| s_pq v_b <| s_pure (.int .i64 (b.length : Int)) (fun _ q => s_b.lenVC q) <| s_pq (.bool ((a.length : Int) != (b.length : Int))) <| s_nil <| p_seqN ?_
 refine v_cond rfl (fun c1 => ?_) (fun c1 => ?_)
 ·
  refine v_seq <| v_ops <| s_pq (.bool false) <| s_nil <| p_seqN <| v_ret <| p_seqR <| p_ret [.bool false] (.bool false) (fun _ q => q) rfl ?_
  have ho : (decide (a = b)) = false := by first | exact decide_eq_true (q_done hab (by assumption) (by assumption)) | exact decide_eq_false (q_ne (by assumption) (by assumption) (by first | assumption | (simp_all; done))) | exact decide_eq_false (fun hc => by subst hc; omega)
  exact ⟨by first | (rw [ho]; done) | rfl, (Ext.refl h)⟩
 have c1 := Classical.not_not.1 c1
 refine v_skip <| p_seqN <| v_seq <| v_seq <| v_ops <| s_pq v_a <| s_pure (.int .i64 (a.length : Int)) (fun _ q => s_a.lenVC q) <| s_pq (.int .i64 0) <| s_nil <| p_seqN <| v_block <| v_loop1 (α := Nat) (fun k => [(0, v_a), (1, v_b), (12, .int .i64 (a.length : Int)), (13, .int .i64 (k : Int))]) (fun k hh => Ext h hh ∧ k ≤ a.length ∧ a.take k = b.take k) (fun k => a.length - k) 0 ⟨rfl, rfl, rfl, rfl⟩ ⟨(Ext.refl h), (by simp)⟩ ?_
 rintro k R3 h2 ⟨Eh, ⟨hk, hab⟩⟩
 have zEh := Eh.size
 have f5 := s_a.ext Eh
 have f6 := s_b.ext Eh
 refine v_seq <| v_ops <| s_pq (.bool (decide ((k : Int) < (a.length : Int)))) <| s_nil <| p_seqN <| v_seq ?_
 refine v_cond rfl (fun c7 => ?_) (fun c7 => ?_)
 ·
  refine v_skip <| p_seqN <| v_seq <| v_block <| v_seq <| v_ops <| s_pq (.int .i64 (k : Int)) <| s_pq (.int .i64 (k : Int)) <| s_nil <| p_seqN <| v_seq <| v_ops <| s_pq v_a <| s_pq (.int .i64 (k : Int)) ?_
  have hk8 : k < a.length := (by first | omega | (simp; omega))
  obtain ⟨x9, hx9⟩ : ∃ x, a[k]? = some x := ⟨_, List.getElem?_eq_getElem hk8⟩
  refine s_pure (.pointer (some ⟨sblk v_a, soff v_a + k * 1, none⟩)) (fun _ q => f5.idx (k := k) rfl hk8 q) <| s_pq v_b <| s_pq (.int .i64 (k : Int)) ?_
  have hk10 : k < b.length := (by first | omega | (simp; omega))
  obtain ⟨x11, hx11⟩ : ∃ x, b[k]? = some x := ⟨_, List.getElem?_eq_getElem hk10⟩
  refine s_pure (.pointer (some ⟨sblk v_b, soff v_b + k * 1, none⟩)) (fun _ q => f6.idx (k := k) rfl hk10 q) <| s_load (.int .i64 x9) (fun _ q => f5.load1 hx9 rfl q) <| s_load (.int .i64 x11) (fun _ q => f6.load1 hx11 rfl q) <| s_pq (.bool (x9 != x11)) <| s_nil <| p_seqN ?_
  refine v_cond rfl (fun c12 => ?_) (fun c12 => ?_)
  ·
   refine v_seq <| v_ops <| s_pq (.bool false) <| s_nil <| p_seqN <| v_ret <| p_blkR <| p_seqR <| p_lpR <| p_blkR <| p_seqR <| p_ret [.bool false] (.bool false) (fun _ q => q) rfl ?_
   have ho : (decide (a = b)) = false := by first | exact decide_eq_true (q_done hab (by assumption) (by assumption)) | exact decide_eq_false (q_ne (by assumption) (by assumption) (by first | assumption | (simp_all; done))) | exact decide_eq_false (fun hc => by subst hc; omega)
   exact ⟨by first | (rw [ho]; done) | rfl, Eh⟩
  have c12 := Classical.not_not.1 c12
  refine v_skip <| p_blkN <| p_seqN <| v_ops <| s_pure (.int .i64 ((k : Int) + 1)) (fun _ q => ArithVC.mk (by omega) q) <| s_pq (.int .i64 ((k : Int) + 1)) <| s_nil ?_
  exact p_lpN ⟨k + 1, ⟨rfl, rfl, rfl, rfl⟩, ⟨Eh, (by exact ⟨by omega, q_step hab (by assumption) (by assumption) (by first | assumption | (simp_all; done))⟩)⟩, by omega⟩
 refine v_exit <| p_seqX <| p_lpX <| p_blkX <| p_seqN <| v_seq <| v_ops <| s_pq (.bool true) <| s_nil <| p_seqN <| v_ret <| p_ret [.bool true] (.bool true) (fun _ q => q) rfl ?_
 have ho : (decide (a = b)) = true := by first | exact decide_eq_true (q_done hab (by assumption) (by assumption)) | exact decide_eq_false (q_ne (by assumption) (by assumption) (by first | assumption | (simp_all; done))) | exact decide_eq_false (fun hc => by subst hc; omega)
 exact ⟨by first | (rw [ho]; done) | rfl, Eh⟩

end Go.Proofs.Ytloicopmcagikaa

