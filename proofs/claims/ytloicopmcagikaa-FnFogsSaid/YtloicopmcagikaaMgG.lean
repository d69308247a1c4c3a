/- Fo1, Fo2, Fo3. Condition: none. -/
import Derived.Test.YtloicopmcagikaaMgB
import Derived.Test.YtloicopmcagikaaMgA
import Derived.Test.YtloicopmcagikaaMgF
/- Clear seconds and seconds of fog. Condition: none. Printed in part by a program. -/
namespace Go.Proofs.Ytloicopmcagikaa
open Go.Vc
set_option linter.all false

/-- a link is clear in a second -/
abbrev Cov (link t : Int) (x : FogD) : Prop := x.link = link ∧ x.fr ≤ t ∧ t < x.til
def clF (l : List FogD) (link t : Int) : Bool := !l.any fun x => decide (Cov link t x)
theorem clF_true {l : List FogD} {link t : Int} : clF l link t = true ↔ ∀ x ∈ l, ¬ Cov link t x := by
 simp only [clF, Bool.not_eq_true', List.any_eq_false, decide_eq_true_eq]
theorem clF_yes {l : List FogD} {link t : Int} {k : Nat} (h : ∀ x ∈ l.take k, ¬ Cov link t x) (hk : ¬ (k : Int) < (l.length : Int)) : clF l link t = true := by
 rw [List.take_of_length_le (by omega)] at h; exact clF_true.2 h
theorem clF_no {l : List FogD} {link t : Int} {k : Nat} {x : FogD} (hx : l[k]? = some x) (h : Cov link t x) : clF l link t = false := by
  cases c : clF l link t with
  | false => rfl
  | true => exact absurd h (clF_true.1 c x (List.mem_of_getElem? hx))
theorem cov_snoc {l : List FogD} {link t : Int} {k : Nat} {x : FogD} (h : ∀ x ∈ l.take k, ¬ Cov link t x) (hx : l[k]? = some x) (hc : ¬ Cov link t x) : ∀ x ∈ l.take (k + 1), ¬ Cov link t x := by
  rw [snoc_get hx]
  intro y hy
  rcases List.mem_append.1 hy with hy | hy
  · exact h y hy
  · obtain rfl := List.mem_singleton.1 hy; exact hc
/-- the seconds of a fog in a range -/
def ov (x : FogD) (a b : Int) : Int := if 0 < (if x.til < b then x.til else b) - (if x.fr > a then x.fr else a) then (if x.til < b then x.til else b) - (if x.fr > a then x.fr else a) else 0
theorem ov_bd {x : FogD} {a b : Int} (hab : a ≤ b) : 0 ≤ ov x a b ∧ ov x a b ≤ b - a := by
 unfold ov
 split <;> split <;> split <;> omega
theorem ov_spec (x : FogD) (a b : Int) : (if 0 > ((if x.til < b then x.til else b) - (if x.fr > a then x.fr else a)) then 0 else ((if x.til < b then x.til else b) - (if x.fr > a then x.fr else a))) = ov x a b := by
  unfold ov
  generalize (if x.til < b then x.til else b) - (if x.fr > a then x.fr else a) = p
  by_cases h : 0 > p
  · rw [if_pos h, if_neg (by omega)]
  · rw [if_neg h]; split <;> omega
theorem ov_impl (x : FogD) (a b : Int) : (if ((if b < x.til then b else x.til) - (if a > x.fr then a else x.fr)) > 0 then ((if b < x.til then b else x.til) - (if a > x.fr then a else x.fr)) else 0) = ov x a b := by
 have e1 : (if b < x.til then b else x.til) = (if x.til < b then x.til else b) := by split <;> split <;> omega
 have e2 : (if a > x.fr then a else x.fr) = (if x.fr > a then x.fr else a) := by split <;> split <;> omega
 rw [e1, e2]; unfold ov
 rfl
def fgSec (l : List FogD) (link a b : Int) : Int := l.foldl (fun s x => if x.link = link then s + ov x a b else s) 0
theorem fgSec_snoc (l : List FogD) (link a b : Int) (x : FogD) : fgSec (l ++ [x]) link a b = if x.link = link then fgSec l link a b + ov x a b else fgSec l link a b := by simp [fgSec]
theorem fgSec_bd (l : List FogD) (link : Int) {a b : Int} (hab : a ≤ b) (hb : b - a ≤ 10000) (k : Nat) : 0 ≤ fgSec (l.take k) link a b ∧ fgSec (l.take k) link a b ≤ 10000 * (k : Int) := by
  induction k with
  | zero => simp [fgSec]
  | succ k ih =>
    by_cases hk : k < l.length
    · have hx := List.getElem?_eq_getElem hk
      have := ov_bd (x := l[k]) hab
      rw [snoc_get hx, fgSec_snoc]
      split <;> omega
    · rw [List.take_of_length_le (by omega)]; rw [List.take_of_length_le (by omega)] at ih; omega
noncomputable def clOut (n : NetP) (l : List FogD) (link t : Int) : Bool × Bool := if AskF n l link t t then (clF l link t, true) else (false, false)
noncomputable def nxOut (n : NetP) (l : List FogD) (link t : Int) : Int × Bool := if AskF n l link t t then (stF l link t 1, true) else (0, false)
noncomputable def fsOut (n : NetP) (l : List FogD) (link a b : Int) : Int × Bool := if AskF n l link a b then (fgSec l link a b, true) else (0, false)
noncomputable def afOut (n : NetP) (l : List FogD) : Bool × Bool := if NetOk n then (decide (FogsOk n.links.length l), true) else (false, false)
theorem askF_of {n : NetP} {l : List FogD} {link t : Int} (h : NetOk n ∧ FogsOk n.links.length l ∧ (0 ≤ link ∧ link ≤ (n.links.length : Int) - 1)) (ht : 0 ≤ t ∧ t ≤ 10000) : AskF n l link t t := ⟨h.1, h.2.1, h.2.2, ht.1, Int.le_refl _, ht.2⟩
theorem askF_not {n : NetP} {l : List FogD} {link t : Int} (h : ¬ (NetOk n ∧ FogsOk n.links.length l ∧ (0 ≤ link ∧ link ≤ (n.links.length : Int) - 1)) ∨ ¬ (0 ≤ t ∧ t ≤ 10000)) : ¬ AskF n l link t t := fun q => by
  rcases h with h | h
  · exact h ⟨q.hn, q.hf, q.hk⟩
  · exact h ⟨q.ha, q.hb⟩

theorem slices_IndexFunc_Limpl_Fog_impl_Fog_ok (v_l : Value) (l : List FogD) (g : Nat) (fs cs : Array Value) (p : FogD → Bool) (h : Heap) (s_l : Sl h v_l l) (hc : ∀ x ∈ l, ∀ h2, Ext h h2 → Cn g (fs.toList ++ [.agg #[.int .i64 x.link, .int .i64 x.fr, .int .i64 x.til]] ++ cs.toList) h2 fun r h' => r = .bool (p x) ∧ Ext h2 h') : Cn f_slices_IndexFunc_Limpl_Fog_impl_Fog [v_l, .func (.func g) fs cs] h fun v h' => v = .int .i64 (firstF p l 0) ∧ Ext h h' := by
 have l63_l := s_l.len63
 refine calls_of r_slices_IndexFunc_Limpl_Fog_impl_Fog ?_
 refine v_seq <| v_ops <| s_pq (.int .i64 0) <| s_nil <| p_seqN <| v_seq <| v_seq <| v_ops <| s_pq v_l <| s_pure (.int .i64 (l.length : Int)) (fun _ q => s_l.lenVC q) <| s_pq (.int .i64 0) <| s_nil <| p_seqN <| v_block <| v_loop1 (α := Nat) (fun k => [(0, v_l), (1, .func (.func g) fs cs), (7, .int .i64 (l.length : Int)), (8, .int .i64 (k : Int))]) (fun k hh => Ext h hh ∧ k ≤ l.length ∧ firstF p l 0 = firstF p (l.drop k) k) (fun k => l.length - k) 0 ⟨rfl, rfl, rfl, rfl⟩ ⟨(Ext.refl h), (by simp)⟩ ?_
 rintro k R2 h1 ⟨Eh, ⟨hk, hF⟩⟩
 have zEh := Eh.size
 have f4 := s_l.ext Eh
 refine v_seq <| v_ops <| s_pq (.bool (decide ((k : Int) < (l.length : Int)))) <| s_nil <| p_seqN <| v_seq ?_
 refine v_cond rfl (fun c5 => ?_) (fun c5 => ?_)
 ·
  refine v_skip <| p_seqN <| v_seq <| v_block <| v_seq <| v_ops <| s_pq (.int .i64 (k : Int)) <| s_pq (.int .i64 (k : Int)) <| s_nil <| p_seqN <| v_seq <| v_ops <| s_pq (.func (.func g) fs cs) <| s_pq v_l <| s_pq (.int .i64 (k : Int)) ?_
  have hk6 : k < l.length := (by first | omega | (simp; omega))
  obtain ⟨x7, hx7⟩ : ∃ x, l[k]? = some x := ⟨_, List.getElem?_eq_getElem hk6⟩
  refine s_pure (.pointer (some ⟨sblk v_l, soff v_l + k * 3, none⟩)) (fun _ q => f4.idx (k := k) rfl hk6 q) <| s_load (.agg #[.int .i64 x7.link, .int .i64 x7.fr, .int .i64 x7.til]) (fun _ q => f4.loadN hx7 rfl q) <| s_callv (fs.toList ++ [.agg #[.int .i64 x7.link, .int .i64 x7.fr, .int .i64 x7.til]] ++ cs.toList) rfl rfl (hc x7 (List.mem_of_getElem? hx7) _ Eh) ?_
  rintro _ h8 ⟨rfl, eh8⟩
  have E9 := Eh.trans eh8
  have z10 := eh8.size
  refine s_nil <| p_seqN ?_
  refine v_cond rfl (fun c11 => ?_) (fun c11 => ?_)
  ·
   refine v_seq <| v_ops <| s_pq (.int .i64 (k : Int)) <| s_pq (.int .i64 (k : Int)) <| s_nil <| p_seqN <| v_ret <| p_blkR <| p_seqR <| p_lpR <| p_blkR <| p_seqR <| p_ret [.int .i64 (k : Int)] (.int .i64 (k : Int)) (fun _ q => q) rfl ?_
   have ho : firstF p l 0 = (k : Int) := by first | (rw [hF, drop_at (by assumption), firstF]; simp [*]; done) | (rw [hF, List.drop_of_length_le (by omega), firstF])
   exact ⟨by first | (rw [ho]; done) | rfl, E9⟩
  refine v_skip <| p_blkN <| p_seqN <| v_ops <| s_pure (.int .i64 ((k : Int) + 1)) (fun _ q => ArithVC.mk (by omega) q) <| s_pq (.int .i64 ((k : Int) + 1)) <| s_nil ?_
  exact p_lpN ⟨k + 1, ⟨rfl, rfl, rfl, rfl⟩, ⟨E9, (by exact ⟨by omega, by rw [hF, drop_at (by assumption), firstF]; simp [*]⟩)⟩, by omega⟩
 refine v_exit <| p_seqX <| p_lpX <| p_blkX <| p_seqN <| v_seq <| v_ops <| s_pq (.int .i64 (-1)) <| s_nil <| p_seqN <| v_ret <| p_ret [.int .i64 (-1)] (.int .i64 (-1)) (fun _ q => q) rfl ?_
 have ho : firstF p l 0 = (-1) := by first | (rw [hF, drop_at (by assumption), firstF]; simp [*]; done) | (rw [hF, List.drop_of_length_le (by omega), firstF])
 exact ⟨by first | (rw [ho]; done) | rfl, Eh⟩

theorem impl_isClear_1_ok (x : FogD) (link : Int) (p_link : Nat) (t_link : TypeId) (t : Int) (p_t : Nat) (t_t : TypeId) (h : Heap) (bx_link : Bx h p_link [.int .i64 link] t_link) (bx_t : Bx h p_t [.int .i64 t] t_t) : Cn f_impl_isClear_1 [.agg #[.int .i64 x.link, .int .i64 x.fr, .int .i64 x.til], .pointer (some ⟨p_link, 0, none⟩), .pointer (some ⟨p_t, 0, none⟩)] h fun v h' => v = .bool (decide (Cov link t x)) ∧ Ext h h' := by
 have lbx_link := bx_link.lt
 have lbx_t := bx_t.lt
 refine calls_of r_impl_isClear_1 ?_
 refine v_seq <| v_ops ?_
 refine s_box [.int .i64 x.link, .int .i64 x.fr, .int .i64 x.til] rfl (fun h2 b1 hbb1 hzb1 eh2 bxb1 => ?_)
 have E3 := (Ext.refl h).trans eh2
 have z4 := eh2.size
 have lbb1 := bxb1.lt
 refine s_pq (.bool false) <| s_nil <| p_seqN <| v_seq <| v_ops <| s_pq (.pointer (some ⟨b1, 0, none⟩)) <| s_load (.int .i64 x.link) (fun _ q => bxb1.load rfl q) ?_
 have f5 := (bx_link.ext eh2)
 refine s_load (.int .i64 link) (fun _ q => f5.load rfl q) <| s_pq (.bool (x.link == link)) <| s_pq (.bool (x.link == link)) ?_
 refine s_splitT rfl (fun c6 => ?_) (fun c6 => ?_)
 ·
  refine s_run rfl <| s_pq (.pointer (some ⟨b1, 1, none⟩)) <| s_run rfl <| s_load (.int .i64 x.fr) (fun _ q => bxb1.load rfl q) <| s_run rfl ?_
  have f7 := (bx_t.ext eh2)
  refine s_load (.int .i64 t) (fun _ q => f7.load rfl q) <| s_run rfl <| s_pq (.bool (decide (x.fr ≤ t))) <| s_pq (.bool (decide (x.fr ≤ t))) <| s_pq (.bool (decide (x.fr ≤ t))) ?_
  refine s_splitT rfl (fun c8 => ?_) (fun c8 => ?_)
  ·
   refine s_run rfl <| s_load (.int .i64 t) (fun _ q => f7.load rfl q) <| s_run rfl <| s_pq (.pointer (some ⟨b1, 2, none⟩)) <| s_run rfl <| s_load (.int .i64 x.til) (fun _ q => bxb1.load rfl q) <| s_run rfl <| s_pq (.bool (decide (t < x.til))) <| s_pq (.bool (decide (t < x.til))) <| s_pq (.bool (decide (t < x.til))) <| s_nil <| p_seqN <| v_ret <| p_ret [.bool (decide (t < x.til))] (.bool (decide (t < x.til))) (fun _ q => q) rfl ?_
   have ho : (decide (Cov link t x)) = (decide (t < x.til)) := by first | (simp [*]; done) | (rw [Bool.eq_iff_iff]; simp [*])
   exact ⟨by first | (rw [ho]; done) | rfl, E3⟩
  refine s_pass rfl <| s_pass rfl <| s_pass rfl <| s_pass rfl <| s_pq (.bool false) <| s_pq (.bool false) <| s_nil <| p_seqN <| v_ret <| p_ret [.bool false] (.bool false) (fun _ q => q) rfl ?_
  have ho : (decide (Cov link t x)) = false := by first | (simp [*]; done) | (rw [Bool.eq_iff_iff]; simp [*])
  exact ⟨by first | (rw [ho]; done) | rfl, E3⟩
 refine s_pass rfl <| s_pass rfl <| s_pass rfl <| s_pass rfl <| s_pq (.bool false) <| s_pq (.bool false) <| s_splitN rfl (by simp) <| s_pass rfl <| s_pass rfl <| s_pass rfl <| s_pass rfl <| s_pq (.bool false) <| s_pq (.bool false) <| s_nil <| p_seqN <| v_ret <| p_ret [.bool false] (.bool false) (fun _ q => q) rfl ?_
 have ho : (decide (Cov link t x)) = false := by first | (simp [*]; done) | (rw [Bool.eq_iff_iff]; simp [*])
 exact ⟨by first | (rw [ho]; done) | rfl, E3⟩

theorem impl_isClear_ok (v_l : Value) (l : List FogD) (link : Int) (t : Int) (h : Heap) (s_l : Sl h v_l l) : Cn f_impl_isClear [v_l, .int .i64 link, .int .i64 t] h fun v h' => v = .bool (clF l link t) ∧ Ext h h' := by
 have l63_l := s_l.len63
 refine calls_of r_impl_isClear ?_
 refine v_seq <| v_ops ?_
 refine s_box [.int .i64 link] rfl (fun h2 b1 hbb1 hzb1 eh2 bxb1 => ?_)
 have E3 := (Ext.refl h).trans eh2
 have z4 := eh2.size
 have lbb1 := bxb1.lt
 refine s_box [.int .i64 t] rfl (fun h6 b5 hbb5 hzb5 eh6 bxb5 => ?_)
 have E7 := E3.trans eh6
 have z8 := eh6.size
 have lbb5 := bxb5.lt
 refine s_pq (.bool false) <| s_nil <| p_seqN <| v_seq <| v_ops <| s_pq v_l <| s_pq (.func (.func 80) #[] #[.pointer (some ⟨b1, 0, none⟩), .pointer (some ⟨b5, 0, none⟩)]) ?_
 refine s_inl r_slices_ContainsFunc_Limpl_Fog_impl_Fog [v_l, .func (.func 80) #[] #[.pointer (some ⟨b1, 0, none⟩), .pointer (some ⟨b5, 0, none⟩)]] rfl ?_ rfl
 refine v_seq <| v_ops <| s_pq (.bool false) <| s_nil <| p_seqN <| v_seq <| v_ops <| s_pq v_l <| s_pq (.func (.func 80) #[] #[.pointer (some ⟨b1, 0, none⟩), .pointer (some ⟨b5, 0, none⟩)]) ?_
 have f9 := ((s_l.ext eh2).ext eh6)
 have f10 := (bxb1.ext eh6)
 refine s_call [v_l, .func (.func 80) #[] #[.pointer (some ⟨b1, 0, none⟩), .pointer (some ⟨b5, 0, none⟩)]] rfl (slices_IndexFunc_Limpl_Fog_impl_Fog_ok v_l l 80 #[] #[.pointer (some ⟨b1, 0, none⟩), .pointer (some ⟨b5, 0, none⟩)] (fun x : FogD => (decide (Cov link t x))) _ f9  (fun x hx h2 e2 => impl_isClear_1_ok x link b1 3 t b5 3 h2 (f10.ext e2) (bxb5.ext e2))) ?_
 rintro _ h11 ⟨rfl, eh11⟩
 have E12 := E7.trans eh11
 have z13 := eh11.size
 refine s_pq (.bool (decide ((firstF (fun x : FogD => (decide (Cov link t x))) l 0) ≥ 0))) <| s_pq (.bool (decide ((firstF (fun x : FogD => (decide (Cov link t x))) l 0) ≥ 0))) <| s_nil <| p_seqN <| v_ret <| p_ret [.bool (decide ((firstF (fun x : FogD => (decide (Cov link t x))) l 0) ≥ 0))] (.bool (decide ((firstF (fun x : FogD => (decide (Cov link t x))) l 0) ≥ 0))) (fun _ q => q) rfl <| s_pq (.bool (!(decide ((firstF (fun x : FogD => (decide (Cov link t x))) l 0) ≥ 0)))) <| s_pq (.bool (!(decide ((firstF (fun x : FogD => (decide (Cov link t x))) l 0) ≥ 0)))) ?_
 refine s_nil <| p_seqN <| v_ret <| p_ret [.bool (!(decide ((firstF (fun x : FogD => (decide (Cov link t x))) l 0) ≥ 0)))] (.bool (!(decide ((firstF (fun x : FogD => (decide (Cov link t x))) l 0) ≥ 0)))) (fun _ q => q) rfl ?_
 have ho : (clF l link t) = (!(decide ((firstF (fun x : FogD => (decide (Cov link t x))) l 0) ≥ 0))) := by (rw [clF, ← Bool.eq_iff_iff.2 ((decide_eq_true_iff (p := (0 : Int) ≤ _)).trans (firstF_nonneg _ _ _))])
 exact ⟨by first | (rw [ho]; done) | rfl, E12⟩

theorem spec_l1Most_ok (a : Int) (b : Int) (h : Heap)  : Cn f_spec_l1Most [.int .i64 a, .int .i64 b] h fun v h' => v = .int .i64 (if a > b then a else b) ∧ h' = h := by
 refine calls_of r_spec_l1Most ?_
 refine v_seq <| v_ops <| s_pq (.int .i64 0) <| s_nil <| p_seqN <| v_seq <| v_seq <| v_ops <| s_pq (.int .i64 a) <| s_pq (.int .i64 b) <| s_pq (.bool (decide (a > b))) <| s_nil <| p_seqN ?_
 refine v_cond rfl (fun c1 => ?_) (fun c1 => ?_)
 ·
  refine v_seq <| v_ops <| s_pq (.int .i64 a) <| s_pq (.int .i64 a) <| s_nil <| p_seqN <| v_ret <| p_seqR <| p_ret [.int .i64 a] (.int .i64 a) (fun _ q => q) rfl ?_
  have ho : (if a > b then a else b) = a := by simp [*]
  exact ⟨by first | (rw [ho]; done) | rfl, rfl⟩
 refine v_skip <| p_seqN <| v_seq <| v_ops <| s_pq (.int .i64 b) <| s_pq (.int .i64 b) <| s_nil <| p_seqN <| v_ret <| p_ret [.int .i64 b] (.int .i64 b) (fun _ q => q) rfl ?_
 have ho : (if a > b then a else b) = b := by simp [*]
 exact ⟨by first | (rw [ho]; done) | rfl, rfl⟩

theorem spec_fgClear_ok (v_l : Value) (l : List FogD) (link : Int) (t : Int) (h : Heap) (s_l : Sl h v_l l) (m : Nat) (hf : FogsOk m l) : Cn f_spec_fgClear [v_l, .int .i64 link, .int .i64 t] h fun v h' => v = .bool (clF l link t) ∧ Ext h h' := by
 have l63_l := s_l.len63
 refine calls_of r_spec_fgClear ?_
 refine v_seq <| v_ops <| s_pq (.bool false) <| s_nil <| p_seqN <| v_seq <| v_seq <| v_ops <| s_pq v_l <| s_pure (.int .i64 (l.length : Int)) (fun _ q => s_l.lenVC q) <| s_pq (.int .i64 0) <| s_nil <| p_seqN <| v_block <| v_loop1 (α := Nat) (fun k => [(1, .int .i64 link), (2, .int .i64 t), (9, v_l), (10, .int .i64 (l.length : Int)), (11, .int .i64 (k : Int))]) (fun k hh => Ext h hh ∧ k ≤ l.length ∧ ∀ x ∈ l.take k, ¬ Cov link t x) (fun k => l.length - k) 0 ⟨rfl, rfl, rfl, rfl, rfl⟩ ⟨(Ext.refl h), (by exact ⟨by omega, by simp⟩)⟩ ?_
 rintro k R2 h1 ⟨Eh, ⟨hk, hc⟩⟩
 have zEh := Eh.size
 have f4 := s_l.ext Eh
 refine v_seq <| v_ops <| s_pq (.bool (decide ((k : Int) < (l.length : Int)))) <| s_nil <| p_seqN <| v_seq ?_
 refine v_cond rfl (fun c5 => ?_) (fun c5 => ?_)
 ·
  refine v_skip <| p_seqN <| v_seq <| v_block <| v_seq <| v_ops ?_
  have hk6 : k < l.length := (by first | omega | (simp; omega))
  obtain ⟨x7, hx7⟩ : ∃ x, l[k]? = some x := ⟨_, List.getElem?_eq_getElem hk6⟩
  refine s_pure (.pointer (some ⟨sblk v_l, soff v_l + k * 3, none⟩)) (fun _ q => f4.idx (k := k) rfl hk6 q) <| s_load (.agg #[.int .i64 x7.link, .int .i64 x7.fr, .int .i64 x7.til]) (fun _ q => f4.loadN hx7 rfl q) ?_
  refine s_new (fun h9 b8 hbb8 hzb8 eh9 bxb8 => ?_)
  have E10 := Eh.trans eh9
  have z11 := eh9.size
  have lbb8 := bxb8.lt
  refine s_stBx (.agg #[.int .i64 x7.link, .int .i64 x7.fr, .int .i64 x7.til]) [.int .i64 x7.link, .int .i64 x7.fr, .int .i64 x7.til] [.int .i64 x7.link, .int .i64 x7.fr, .int .i64 x7.til] bxb8 rfl rfl rfl rfl (by simp) (all_cons rfl (all_cons rfl (all_cons rfl all_nil))) rfl (fun h12 mh12 sh12 bxx13 => ?_)
  have E14 := E10.mod mh12 (fun b hb => by simp at hb; omega)
  refine s_nil <| p_seqN <| v_seq <| v_ops <| s_pq (.pointer (some ⟨b8, 0, none⟩)) <| s_load (.int .i64 x7.link) (fun _ q => bxx13.load rfl q) <| s_pq (.int .i64 link) <| s_pq (.bool (x7.link == link)) <| s_pq (.bool (x7.link == link)) ?_
  refine s_splitT rfl (fun c15 => ?_) (fun c15 => ?_)
  ·
   refine s_run rfl <| s_pq (.int .i64 t) <| s_run rfl <| s_pq (.pointer (some ⟨b8, 1, none⟩)) <| s_run rfl <| s_load (.int .i64 x7.fr) (fun _ q => bxx13.load rfl q) <| s_run rfl <| s_pq (.pointer (some ⟨b8, 2, none⟩)) <| s_run rfl <| s_load (.int .i64 x7.til) (fun _ q => bxx13.load rfl q) <| s_run rfl <| s_pure (.int .i64 (x7.til - 1)) (fun _ q => ArithVC.mk (by have := hf.at (by assumption : l[k]? = some _); omega) q) <| s_run rfl <| s_callS [.int .i64 t, .int .i64 x7.fr, .int .i64 (x7.til - 1)] (.bool (decide (x7.fr ≤ t ∧ t ≤ (x7.til - 1)))) rfl (l1In_ok t x7.fr (x7.til - 1) _ ) ?_
   refine s_pq (.bool (decide (x7.fr ≤ t ∧ t ≤ (x7.til - 1)))) <| s_nil <| p_seqN ?_
   refine v_cond rfl (fun c16 => ?_) (fun c16 => ?_)
   ·
    refine v_seq <| v_ops <| s_pq (.bool false) <| s_nil <| p_seqN <| v_ret <| p_blkR <| p_seqR <| p_lpR <| p_blkR <| p_seqR <| p_ret [.bool false] (.bool false) (fun _ q => q) rfl ?_
    have ho : (clF l link t) = false := by first | exact clF_no (by assumption) (by unfold Cov; omega) | exact clF_yes hc (by assumption)
    exact ⟨by first | (rw [ho]; done) | rfl, E14⟩
   refine v_skip <| p_blkN <| p_seqN <| v_ops <| s_pure (.int .i64 ((k : Int) + 1)) (fun _ q => ArithVC.mk (by omega) q) <| s_pq (.int .i64 ((k : Int) + 1)) <| s_nil ?_
   exact p_lpN ⟨k + 1, ⟨rfl, rfl, rfl, rfl, rfl⟩, ⟨E14, (by exact ⟨by omega, cov_snoc hc (by assumption) (by unfold Cov; omega)⟩)⟩, by omega⟩
  refine s_pass rfl <| s_pass rfl <| s_pass rfl <| s_pass rfl <| s_pass rfl <| s_pass rfl <| s_pass rfl <| s_pq (.bool false) <| s_nil <| p_seqN <| v_condN rfl (by simp) <| v_skip <| p_blkN <| p_seqN <| v_ops <| s_pure (.int .i64 ((k : Int) + 1)) (fun _ q => ArithVC.mk (by omega) q) <| s_pq (.int .i64 ((k : Int) + 1)) <| s_nil ?_
  exact p_lpN ⟨k + 1, ⟨rfl, rfl, rfl, rfl, rfl⟩, ⟨E14, (by exact ⟨by omega, cov_snoc hc (by assumption) (by unfold Cov; omega)⟩)⟩, by omega⟩
 refine v_exit <| p_seqX <| p_lpX <| p_blkX <| p_seqN <| v_seq <| v_ops <| s_pq (.bool true) <| s_nil <| p_seqN <| v_ret <| p_ret [.bool true] (.bool true) (fun _ q => q) rfl ?_
 have ho : (clF l link t) = true := by first | exact clF_no (by assumption) (by unfold Cov; omega) | exact clF_yes hc (by assumption)
 exact ⟨by first | (rw [ho]; done) | rfl, Eh⟩

theorem spec_fgNext_ok (v_l : Value) (l : List FogD) (link : Int) (t : Int) (h : Heap) (s_l : Sl h v_l l) (m : Nat) (hf : FogsOk m l) (ht : 0 ≤ t ∧ t ≤ 1000000) : Cn f_spec_fgNext [v_l, .int .i64 link, .int .i64 t] h fun v h' => v = .int .i64 (stF l link t 1) ∧ Ext h h' := by
 have l63_l := s_l.len63
 refine calls_of r_spec_fgNext ?_
 refine v_seq <| v_ops <| s_pq (.int .i64 0) <| s_nil <| p_seqN <| v_seq <| v_seq <| v_ops <| s_pq v_l <| s_pure (.int .i64 (l.length : Int)) (fun _ q => s_l.lenVC q) <| s_pq (.int .i64 0) <| s_nil <| p_seqN <| v_block <| v_loop2 (α := Nat) (β := Int) (fun k u => [(1, .int .i64 link), (2, .int .i64 u), (9, v_l), (10, .int .i64 (l.length : Int)), (11, .int .i64 (k : Int))]) (fun k u hh => Ext h hh ∧ k ≤ l.length ∧ u = stF (l.take k) link t 1) (fun k u => l.length - k) 0 t ⟨rfl, rfl, rfl, rfl, rfl⟩ ⟨(Ext.refl h), (by simp [stF])⟩ ?_
 rintro k u R2 h1 ⟨Eh, ⟨hk, hu⟩⟩
 have zEh := Eh.size
 have f4 := s_l.ext Eh
 have hb := stF_bd hf link t 1 k
 rw [← hu] at hb
 refine v_seq <| v_ops <| s_pq (.bool (decide ((k : Int) < (l.length : Int)))) <| s_nil <| p_seqN <| v_seq ?_
 refine v_cond rfl (fun c5 => ?_) (fun c5 => ?_)
 ·
  refine v_skip <| p_seqN <| v_seq <| v_block <| v_seq <| v_ops ?_
  have hk6 : k < l.length := (by first | omega | (simp; omega))
  obtain ⟨x7, hx7⟩ : ∃ x, l[k]? = some x := ⟨_, List.getElem?_eq_getElem hk6⟩
  refine s_pure (.pointer (some ⟨sblk v_l, soff v_l + k * 3, none⟩)) (fun _ q => f4.idx (k := k) rfl hk6 q) <| s_load (.agg #[.int .i64 x7.link, .int .i64 x7.fr, .int .i64 x7.til]) (fun _ q => f4.loadN hx7 rfl q) ?_
  refine s_new (fun h9 b8 hbb8 hzb8 eh9 bxb8 => ?_)
  have E10 := Eh.trans eh9
  have z11 := eh9.size
  have lbb8 := bxb8.lt
  refine s_stBx (.agg #[.int .i64 x7.link, .int .i64 x7.fr, .int .i64 x7.til]) [.int .i64 x7.link, .int .i64 x7.fr, .int .i64 x7.til] [.int .i64 x7.link, .int .i64 x7.fr, .int .i64 x7.til] bxb8 rfl rfl rfl rfl (by simp) (all_cons rfl (all_cons rfl (all_cons rfl all_nil))) rfl (fun h12 mh12 sh12 bxx13 => ?_)
  have E14 := E10.mod mh12 (fun b hb => by simp at hb; omega)
  refine s_nil <| p_seqN <| v_seq <| v_ops <| s_pq (.pointer (some ⟨b8, 0, none⟩)) <| s_load (.int .i64 x7.link) (fun _ q => bxx13.load rfl q) <| s_pq (.int .i64 link) <| s_pq (.bool (x7.link == link)) <| s_pq (.bool (x7.link == link)) ?_
  refine s_splitT rfl (fun c15 => ?_) (fun c15 => ?_)
  ·
   refine s_run rfl <| s_pq (.int .i64 u) <| s_run rfl <| s_pq (.pointer (some ⟨b8, 1, none⟩)) <| s_run rfl <| s_load (.int .i64 x7.fr) (fun _ q => bxx13.load rfl q) <| s_run rfl <| s_pq (.pointer (some ⟨b8, 2, none⟩)) <| s_run rfl <| s_load (.int .i64 x7.til) (fun _ q => bxx13.load rfl q) <| s_run rfl <| s_pure (.int .i64 (x7.til - 1)) (fun _ q => ArithVC.mk (by have := hf.at (by assumption : l[k]? = some _); omega) q) <| s_run rfl <| s_callS [.int .i64 u, .int .i64 x7.fr, .int .i64 (x7.til - 1)] (.bool (decide (x7.fr ≤ u ∧ u ≤ (x7.til - 1)))) rfl (l1In_ok u x7.fr (x7.til - 1) _ ) ?_
   refine s_pq (.bool (decide (x7.fr ≤ u ∧ u ≤ (x7.til - 1)))) <| s_nil <| p_seqN ?_
   refine v_cond rfl (fun c16 => ?_) (fun c16 => ?_)
   ·
    refine v_ops <| s_pq (.pointer (some ⟨b8, 2, none⟩)) <| s_load (.int .i64 x7.til) (fun _ q => bxx13.load rfl q) <| s_pq (.int .i64 x7.til) <| s_nil <| p_blkN <| p_seqN <| v_ops <| s_pure (.int .i64 ((k : Int) + 1)) (fun _ q => ArithVC.mk (by omega) q) <| s_pq (.int .i64 ((k : Int) + 1)) <| s_nil ?_
    exact p_lpN ⟨k + 1, x7.til, ⟨rfl, rfl, rfl, rfl, rfl⟩, ⟨E14, (by exact ⟨by omega, by rw [snoc_get (by assumption), stF_snoc, ← hu]; first | rw [if_pos (by omega)] | rw [if_neg (by omega)]⟩)⟩, by omega⟩
   refine v_skip <| p_blkN <| p_seqN <| v_ops <| s_pure (.int .i64 ((k : Int) + 1)) (fun _ q => ArithVC.mk (by omega) q) <| s_pq (.int .i64 ((k : Int) + 1)) <| s_nil ?_
   exact p_lpN ⟨k + 1, u, ⟨rfl, rfl, rfl, rfl, rfl⟩, ⟨E14, (by exact ⟨by omega, by rw [snoc_get (by assumption), stF_snoc, ← hu]; first | rw [if_pos (by omega)] | rw [if_neg (by omega)]⟩)⟩, by omega⟩
  refine s_pass rfl <| s_pass rfl <| s_pass rfl <| s_pass rfl <| s_pass rfl <| s_pass rfl <| s_pass rfl <| s_pq (.bool false) <| s_nil <| p_seqN <| v_condN rfl (by simp) <| v_skip <| p_blkN <| p_seqN <| v_ops <| s_pure (.int .i64 ((k : Int) + 1)) (fun _ q => ArithVC.mk (by omega) q) <| s_pq (.int .i64 ((k : Int) + 1)) <| s_nil ?_
  exact p_lpN ⟨k + 1, u, ⟨rfl, rfl, rfl, rfl, rfl⟩, ⟨E14, (by exact ⟨by omega, by rw [snoc_get (by assumption), stF_snoc, ← hu]; first | rw [if_pos (by omega)] | rw [if_neg (by omega)]⟩)⟩, by omega⟩
 refine v_exit <| p_seqX <| p_lpX <| p_blkX <| p_seqN <| v_seq <| v_ops <| s_pq (.int .i64 u) <| s_pq (.int .i64 u) <| s_nil <| p_seqN <| v_ret <| p_ret [.int .i64 u] (.int .i64 u) (fun _ q => q) rfl ?_
 have ho : (stF l link t 1) = u := by rw [take_all (by assumption)] at hu; exact hu.symm
 exact ⟨by first | (rw [ho]; done) | rfl, Eh⟩

theorem spec_fgSeconds_ok (v_l : Value) (l : List FogD) (link : Int) (a : Int) (b : Int) (h : Heap) (s_l : Sl h v_l l) (m : Nat) (hf : FogsOk m l) (ha : 0 ≤ a) (hab : a ≤ b) (hb0 : b ≤ 10000) : Cn f_spec_fgSeconds [v_l, .int .i64 link, .int .i64 a, .int .i64 b] h fun v h' => v = .int .i64 (fgSec l link a b) ∧ Ext h h' := by
 have l63_l := s_l.len63
 refine calls_of r_spec_fgSeconds ?_
 refine v_seq <| v_ops <| s_pq (.int .i64 0) <| s_nil <| p_seqN <| v_seq <| v_ops <| s_pq (.int .i64 0) <| s_nil <| p_seqN <| v_seq <| v_seq <| v_ops <| s_pq v_l <| s_pure (.int .i64 (l.length : Int)) (fun _ q => s_l.lenVC q) <| s_pq (.int .i64 0) <| s_nil <| p_seqN <| v_block <| v_loop2 (α := Nat) (β := Int) (fun k u => [(1, .int .i64 link), (2, .int .i64 a), (3, .int .i64 b), (9, .int .i64 u), (12, v_l), (13, .int .i64 (l.length : Int)), (14, .int .i64 (k : Int))]) (fun k u hh => Ext h hh ∧ k ≤ l.length ∧ u = fgSec (l.take k) link a b) (fun k u => l.length - k) 0 0 ⟨rfl, rfl, rfl, rfl, rfl, rfl, rfl⟩ ⟨(Ext.refl h), (by simp [fgSec])⟩ ?_
 rintro k u R2 h1 ⟨Eh, ⟨hk, hu⟩⟩
 have zEh := Eh.size
 have f4 := s_l.ext Eh
 have hb := fgSec_bd l link hab (by omega) k
 rw [← hu] at hb
 have h60 := hf.1
 refine v_seq <| v_ops <| s_pq (.bool (decide ((k : Int) < (l.length : Int)))) <| s_nil <| p_seqN <| v_seq ?_
 refine v_cond rfl (fun c5 => ?_) (fun c5 => ?_)
 ·
  refine v_skip <| p_seqN <| v_seq <| v_block <| v_seq <| v_ops ?_
  have hk6 : k < l.length := (by first | omega | (simp; omega))
  obtain ⟨x7, hx7⟩ : ∃ x, l[k]? = some x := ⟨_, List.getElem?_eq_getElem hk6⟩
  refine s_pure (.pointer (some ⟨sblk v_l, soff v_l + k * 3, none⟩)) (fun _ q => f4.idx (k := k) rfl hk6 q) <| s_load (.agg #[.int .i64 x7.link, .int .i64 x7.fr, .int .i64 x7.til]) (fun _ q => f4.loadN hx7 rfl q) ?_
  refine s_new (fun h9 b8 hbb8 hzb8 eh9 bxb8 => ?_)
  have E10 := Eh.trans eh9
  have z11 := eh9.size
  have lbb8 := bxb8.lt
  refine s_stBx (.agg #[.int .i64 x7.link, .int .i64 x7.fr, .int .i64 x7.til]) [.int .i64 x7.link, .int .i64 x7.fr, .int .i64 x7.til] [.int .i64 x7.link, .int .i64 x7.fr, .int .i64 x7.til] bxb8 rfl rfl rfl rfl (by simp) (all_cons rfl (all_cons rfl (all_cons rfl all_nil))) rfl (fun h12 mh12 sh12 bxx13 => ?_)
  have E14 := E10.mod mh12 (fun b hb => by simp at hb; omega)
  refine s_nil <| p_seqN <| v_seq <| v_ops <| s_pq (.pointer (some ⟨b8, 0, none⟩)) <| s_load (.int .i64 x7.link) (fun _ q => bxx13.load rfl q) <| s_pq (.int .i64 link) <| s_pq (.bool (x7.link == link)) <| s_nil <| p_seqN ?_
  refine v_cond rfl (fun c15 => ?_) (fun c15 => ?_)
  ·
   refine v_draw (DrawVC.hold ([b8]) ?_)
   refine d_pq (.int .i64 u) <| d_pq (.pointer (some ⟨b8, 2, none⟩)) <| d_pq (.int .i64 b) <| d_pq (.pointer (some ⟨b8, 1, none⟩)) <| d_pq (.int .i64 a) <| d_loadO (.int .i64 x7.til) (fun _ q => bxx13.load rfl q) <| d_loadT (.int .i64 x7.fr) (fun _ q => bxx13.take (by simp) rfl q) <| d_eff <| s_callS [.int .i64 x7.til, .int .i64 b] (.int .i64 (if x7.til < b then x7.til else b)) rfl (spec_l1Least_ok x7.til b _ ) ?_
   refine s_nil ⟨fun _ x hx => rfl, ?_⟩
   refine d_eff <| s_callS [.int .i64 x7.fr, .int .i64 a] (.int .i64 (if x7.fr > a then x7.fr else a)) rfl (spec_l1Most_ok x7.fr a _ ) ?_
   refine s_nil ⟨fun hl => (by cases hl), ?_⟩
   refine d_pureT (.int .i64 ((if x7.til < b then x7.til else b) - (if x7.fr > a then x7.fr else a))) (fun _ q => ArithVC.mk (by have q_ := hf.at (by assumption : l[k]? = some _); (have q2_ := fun x => ov_bd (x := x) hab); first | omega | (rw [ov_spec]; (have q3_ := q2_ x7); omega) | (rw [ov_impl]; (have q3_ := q2_ x7); omega) | ((repeat split) <;> omega)) q) <| d_eff <| s_callS [.int .i64 0, .int .i64 ((if x7.til < b then x7.til else b) - (if x7.fr > a then x7.fr else a))] (.int .i64 (if 0 > ((if x7.til < b then x7.til else b) - (if x7.fr > a then x7.fr else a)) then 0 else ((if x7.til < b then x7.til else b) - (if x7.fr > a then x7.fr else a)))) rfl (spec_l1Most_ok 0 ((if x7.til < b then x7.til else b) - (if x7.fr > a then x7.fr else a)) _ ) ?_
   refine s_nil ⟨fun hl => (by cases hl), ?_⟩
   refine d_pureT (.int .i64 (u + (if 0 > ((if x7.til < b then x7.til else b) - (if x7.fr > a then x7.fr else a)) then 0 else ((if x7.til < b then x7.til else b) - (if x7.fr > a then x7.fr else a))))) (fun _ q => ArithVC.mk (by have q_ := hf.at (by assumption : l[k]? = some _); (have q2_ := fun x => ov_bd (x := x) hab); first | omega | (rw [ov_spec]; (have q3_ := q2_ x7); omega) | (rw [ov_impl]; (have q3_ := q2_ x7); omega) | ((repeat split) <;> omega)) q) <| d_pq (.int .i64 (u + (if 0 > ((if x7.til < b then x7.til else b) - (if x7.fr > a then x7.fr else a)) then 0 else ((if x7.til < b then x7.til else b) - (if x7.fr > a then x7.fr else a))))) ?_
   refine d_done <| p_blkN <| p_seqN <| v_ops <| s_pure (.int .i64 ((k : Int) + 1)) (fun _ q => ArithVC.mk (by omega) q) <| s_pq (.int .i64 ((k : Int) + 1)) <| s_nil ?_
   exact p_lpN ⟨k + 1, (u + (if 0 > ((if x7.til < b then x7.til else b) - (if x7.fr > a then x7.fr else a)) then 0 else ((if x7.til < b then x7.til else b) - (if x7.fr > a then x7.fr else a)))), ⟨rfl, rfl, rfl, rfl, rfl, rfl, rfl⟩, ⟨E14, (by exact ⟨by omega, by rw [snoc_get (by assumption), fgSec_snoc, ← hu]; first | (rw [ov_spec, if_pos (by omega)]; done) | (rw [ov_impl, if_pos (by omega)]; done) | (rw [if_neg (by omega)]; done)⟩)⟩, by omega⟩
  refine v_skip <| p_blkN <| p_seqN <| v_ops <| s_pure (.int .i64 ((k : Int) + 1)) (fun _ q => ArithVC.mk (by omega) q) <| s_pq (.int .i64 ((k : Int) + 1)) <| s_nil ?_
  exact p_lpN ⟨k + 1, u, ⟨rfl, rfl, rfl, rfl, rfl, rfl, rfl⟩, ⟨E14, (by exact ⟨by omega, by rw [snoc_get (by assumption), fgSec_snoc, ← hu]; first | (rw [ov_spec, if_pos (by omega)]; done) | (rw [ov_impl, if_pos (by omega)]; done) | (rw [if_neg (by omega)]; done)⟩)⟩, by omega⟩
 refine v_exit <| p_seqX <| p_lpX <| p_blkX <| p_seqN <| v_seq <| v_ops <| s_pq (.int .i64 u) <| s_pq (.int .i64 u) <| s_nil <| p_seqN <| v_ret <| p_ret [.int .i64 u] (.int .i64 u) (fun _ q => q) rfl ?_
 have ho : (fgSec l link a b) = u := by rw [take_all (by assumption)] at hu; exact hu.symm
 exact ⟨by first | (rw [ho]; done) | rfl, Eh⟩

theorem impl_IsClear_ok (n : NetP) (v_n_towers : Value) (v_n_links : Value) (v_l : Value) (l : List FogD) (link : Int) (t : Int) (h : Heap) (s_n_towers : Sl h v_n_towers n.towers) (s_n_links : Sl h v_n_links n.links) (s_l : Sl h v_l l) : Cn f_impl_IsClear [.agg #[v_n_towers, v_n_links], v_l, .int .i64 link, .int .i64 t] h fun v h' => v = .tuple #[.bool ((clOut n l link t).1), .bool ((clOut n l link t).2)] ∧ Ext h h' := by
 have l63_n_towers := s_n_towers.len63
 have l63_n_links := s_n_links.len63
 have l63_l := s_l.len63
 refine calls_of r_impl_IsClear ?_
 refine v_seq <| v_ops ?_
 refine s_box [v_n_towers, v_n_links] rfl (fun h2 b1 hbb1 hzb1 eh2 bxb1 => ?_)
 have E3 := (Ext.refl h).trans eh2
 have z4 := eh2.size
 have lbb1 := bxb1.lt
 refine s_pq (.bool false) <| s_pq (.bool false) <| s_nil <| p_seqN <| v_seq <| v_seq <| v_ops <| s_load (.agg #[v_n_towers, v_n_links]) (fun _ q => bxb1.loadA rfl q) <| s_pq v_l <| s_pq (.int .i64 link) <| s_pq (.int .i64 t) <| s_pq (.int .i64 t) ?_
 have f5 := (s_n_towers.ext eh2)
 have f6 := (s_n_links.ext eh2)
 have f7 := (s_l.ext eh2)
 refine s_call [.agg #[v_n_towers, v_n_links], v_l, .int .i64 link, .int .i64 t, .int .i64 t] rfl (impl_fogAsked_ok n v_n_towers v_n_links v_l l link t t _ f5 f6 f7) ?_
 rintro _ h8 ⟨rfl, eh8⟩
 have E9 := E3.trans eh8
 have z10 := eh8.size
 refine s_pq (.bool (!(decide (AskF n l link t t)))) <| s_nil <| p_seqN ?_
 refine v_cond rfl (fun c11 => ?_) (fun c11 => ?_)
 ·
  refine v_seq <| v_ops <| s_pq (.bool false) <| s_pq (.bool false) <| s_nil <| p_seqN <| v_ret <| p_seqR <| p_ret [.bool false, .bool false] (.tuple #[.bool false, .bool false]) (fun _ q => q) rfl ?_
  have ho : (clOut n l link t) = (false, false) := by first | exact if_neg (by assumption) | exact if_pos (by assumption)
  exact ⟨by first | (rw [ho]; done) | rfl, E9⟩
 have c11 := Classical.not_not.1 c11
 refine v_skip <| p_seqN <| v_seq <| v_ops <| s_pq v_l <| s_pq (.int .i64 link) <| s_pq (.int .i64 t) ?_
 have f12 := (f7.ext eh8)
 refine s_call [v_l, .int .i64 link, .int .i64 t] rfl (impl_isClear_ok v_l l link t _ f12) ?_
 rintro _ h13 ⟨rfl, eh13⟩
 have E14 := E9.trans eh13
 have z15 := eh13.size
 refine s_pq (.bool (clF l link t)) <| s_pq (.bool true) <| s_nil <| p_seqN <| v_ret <| p_ret [.bool (clF l link t), .bool true] (.tuple #[.bool (clF l link t), .bool true]) (fun _ q => q) rfl ?_
 have ho : (clOut n l link t) = ((clF l link t), true) := by first | exact if_neg (by assumption) | exact if_pos (by assumption)
 exact ⟨by first | (rw [ho]; done) | rfl, E14⟩

theorem impl_NextClear_ok (n : NetP) (v_n_towers : Value) (v_n_links : Value) (v_l : Value) (l : List FogD) (link : Int) (t : Int) (h : Heap) (s_n_towers : Sl h v_n_towers n.towers) (s_n_links : Sl h v_n_links n.links) (s_l : Sl h v_l l) : Cn f_impl_NextClear [.agg #[v_n_towers, v_n_links], v_l, .int .i64 link, .int .i64 t] h fun v h' => v = .tuple #[.int .i64 ((nxOut n l link t).1), .bool ((nxOut n l link t).2)] ∧ Ext h h' := by
 have l63_n_towers := s_n_towers.len63
 have l63_n_links := s_n_links.len63
 have l63_l := s_l.len63
 refine calls_of r_impl_NextClear ?_
 refine v_seq <| v_ops ?_
 refine s_box [v_n_towers, v_n_links] rfl (fun h2 b1 hbb1 hzb1 eh2 bxb1 => ?_)
 have E3 := (Ext.refl h).trans eh2
 have z4 := eh2.size
 have lbb1 := bxb1.lt
 refine s_pq (.int .i64 0) <| s_pq (.bool false) <| s_nil <| p_seqN <| v_seq <| v_seq <| v_ops <| s_load (.agg #[v_n_towers, v_n_links]) (fun _ q => bxb1.loadA rfl q) <| s_pq v_l <| s_pq (.int .i64 link) <| s_pq (.int .i64 t) <| s_pq (.int .i64 t) ?_
 have f5 := (s_n_towers.ext eh2)
 have f6 := (s_n_links.ext eh2)
 have f7 := (s_l.ext eh2)
 refine s_call [.agg #[v_n_towers, v_n_links], v_l, .int .i64 link, .int .i64 t, .int .i64 t] rfl (impl_fogAsked_ok n v_n_towers v_n_links v_l l link t t _ f5 f6 f7) ?_
 rintro _ h8 ⟨rfl, eh8⟩
 have E9 := E3.trans eh8
 have z10 := eh8.size
 refine s_pq (.bool (!(decide (AskF n l link t t)))) <| s_nil <| p_seqN ?_
 refine v_cond rfl (fun c11 => ?_) (fun c11 => ?_)
 ·
  refine v_seq <| v_ops <| s_pq (.int .i64 0) <| s_pq (.bool false) <| s_nil <| p_seqN <| v_ret <| p_seqR <| p_ret [.int .i64 0, .bool false] (.tuple #[.int .i64 0, .bool false]) (fun _ q => q) rfl ?_
  have ho : (nxOut n l link t) = (0, false) := by first | exact if_neg (by assumption) | exact if_pos (by assumption)
  exact ⟨by first | (rw [ho]; done) | rfl, E9⟩
 have c11 := Classical.not_not.1 c11
 refine v_skip <| p_seqN <| v_seq <| v_ops <| s_pq v_l <| s_pq (.int .i64 link) <| s_pq (.int .i64 t) ?_
 have f12 := (f7.ext eh8)
 refine s_call [v_l, .int .i64 link, .int .i64 t, .int .i64 1] rfl (impl_startAfter_ok v_l l link t 1 _ f12 _ (by assumption : AskF _ _ _ _ _).hf ⟨(by assumption : AskF _ _ _ _ _).ha, by (have q_ := (by assumption : AskF _ _ _ _ _).hb); omega⟩ (by omega)) ?_
 rintro _ h13 ⟨rfl, eh13⟩
 have E14 := E9.trans eh13
 have z15 := eh13.size
 refine s_pq (.int .i64 (stF l link t 1)) <| s_pq (.bool true) <| s_nil <| p_seqN <| v_ret <| p_ret [.int .i64 (stF l link t 1), .bool true] (.tuple #[.int .i64 (stF l link t 1), .bool true]) (fun _ q => q) rfl ?_
 have ho : (nxOut n l link t) = ((stF l link t 1), true) := by first | exact if_neg (by assumption) | exact if_pos (by assumption)
 exact ⟨by first | (rw [ho]; done) | rfl, E14⟩

theorem spec_IsClear_ok (n : NetP) (v_n_towers : Value) (v_n_links : Value) (v_l : Value) (l : List FogD) (link : Int) (t : Int) (h : Heap) (s_n_towers : Sl h v_n_towers n.towers) (s_n_links : Sl h v_n_links n.links) (s_l : Sl h v_l l) : Cn f_spec_IsClear [.agg #[v_n_towers, v_n_links], v_l, .int .i64 link, .int .i64 t] h fun v h' => v = .tuple #[.bool ((clOut n l link t).1), .bool ((clOut n l link t).2)] ∧ Ext h h' := by
 have l63_n_towers := s_n_towers.len63
 have l63_n_links := s_n_links.len63
 have l63_l := s_l.len63
 refine calls_of r_spec_IsClear ?_
 refine v_seq <| v_ops ?_
 refine s_box [v_n_towers, v_n_links] rfl (fun h2 b1 hbb1 hzb1 eh2 bxb1 => ?_)
 have E3 := (Ext.refl h).trans eh2
 have z4 := eh2.size
 have lbb1 := bxb1.lt
 refine s_pq (.bool false) <| s_pq (.bool false) <| s_nil <| p_seqN <| v_seq <| v_seq <| v_ops <| s_load (.agg #[v_n_towers, v_n_links]) (fun _ q => bxb1.loadA rfl q) <| s_pq v_l <| s_pq (.int .i64 link) ?_
 have f5 := (s_n_towers.ext eh2)
 have f6 := (s_n_links.ext eh2)
 have f7 := (s_l.ext eh2)
 refine s_call [.agg #[v_n_towers, v_n_links], v_l, .int .i64 link] rfl (spec_fgHas_ok n v_n_towers v_n_links v_l l link _ f5 f6 f7) ?_
 rintro _ h8 ⟨rfl, eh8⟩
 have E9 := E3.trans eh8
 have z10 := eh8.size
 refine s_pq (.bool (!(decide (NetOk n ∧ FogsOk n.links.length l ∧ (0 ≤ link ∧ link ≤ (n.links.length : Int) - 1))))) <| s_pq (.bool (!(decide (NetOk n ∧ FogsOk n.links.length l ∧ (0 ≤ link ∧ link ≤ (n.links.length : Int) - 1))))) ?_
 refine s_splitT rfl (fun c11 => ?_) (fun c11 => ?_)
 ·
  refine s_pass rfl <| s_pass rfl <| s_pass rfl <| s_pq (.bool true) <| s_nil <| p_seqN <| v_condY rfl rfl <| v_seq <| v_ops <| s_pq (.bool false) <| s_pq (.bool false) <| s_nil <| p_seqN <| v_ret <| p_seqR <| p_ret [.bool false, .bool false] (.tuple #[.bool false, .bool false]) (fun _ q => q) rfl ?_
  have ho : (clOut n l link t) = (false, false) := by first | exact if_neg (askF_not (.inl (by assumption))) | exact if_neg (askF_not (.inr (by assumption))) | exact if_pos (askF_of (by assumption) (by assumption))
  exact ⟨by first | (rw [ho]; done) | rfl, E9⟩
 have c11 := Classical.not_not.1 c11
 refine s_run rfl <| s_pq (.int .i64 t) <| s_run rfl <| s_callS [.int .i64 t] (.bool (decide (0 ≤ t ∧ t ≤ 10000))) rfl (spec_fgTime_ok t _ ) <| s_run rfl <| s_pq (.bool (!(decide (0 ≤ t ∧ t ≤ 10000)))) <| s_pq (.bool (!(decide (0 ≤ t ∧ t ≤ 10000)))) <| s_nil <| p_seqN ?_
 refine v_cond rfl (fun c12 => ?_) (fun c12 => ?_)
 ·
  refine v_seq <| v_ops <| s_pq (.bool false) <| s_pq (.bool false) <| s_nil <| p_seqN <| v_ret <| p_seqR <| p_ret [.bool false, .bool false] (.tuple #[.bool false, .bool false]) (fun _ q => q) rfl ?_
  have ho : (clOut n l link t) = (false, false) := by first | exact if_neg (askF_not (.inl (by assumption))) | exact if_neg (askF_not (.inr (by assumption))) | exact if_pos (askF_of (by assumption) (by assumption))
  exact ⟨by first | (rw [ho]; done) | rfl, E9⟩
 have c12 := Classical.not_not.1 c12
 refine v_skip <| p_seqN <| v_seq <| v_ops <| s_pq v_l <| s_pq (.int .i64 link) <| s_pq (.int .i64 t) ?_
 have f13 := (f7.ext eh8)
 refine s_call [v_l, .int .i64 link, .int .i64 t] rfl (spec_fgClear_ok v_l l link t _ f13 _ (by assumption : NetOk n ∧ FogsOk n.links.length l ∧ (0 ≤ link ∧ link ≤ (n.links.length : Int) - 1)).2.1) ?_
 rintro _ h14 ⟨rfl, eh14⟩
 have E15 := E9.trans eh14
 have z16 := eh14.size
 refine s_pq (.bool (clF l link t)) <| s_pq (.bool true) <| s_nil <| p_seqN <| v_ret <| p_ret [.bool (clF l link t), .bool true] (.tuple #[.bool (clF l link t), .bool true]) (fun _ q => q) rfl ?_
 have ho : (clOut n l link t) = ((clF l link t), true) := by first | exact if_neg (askF_not (.inl (by assumption))) | exact if_neg (askF_not (.inr (by assumption))) | exact if_pos (askF_of (by assumption) (by assumption))
 exact ⟨by first | (rw [ho]; done) | rfl, E15⟩

theorem spec_NextClear_ok (n : NetP) (v_n_towers : Value) (v_n_links : Value) (v_l : Value) (l : List FogD) (link : Int) (t : Int) (h : Heap) (s_n_towers : Sl h v_n_towers n.towers) (s_n_links : Sl h v_n_links n.links) (s_l : Sl h v_l l) : Cn f_spec_NextClear [.agg #[v_n_towers, v_n_links], v_l, .int .i64 link, .int .i64 t] h fun v h' => v = .tuple #[.int .i64 ((nxOut n l link t).1), .bool ((nxOut n l link t).2)] ∧ Ext h h' := by
 have l63_n_towers := s_n_towers.len63
 have l63_n_links := s_n_links.len63
 have l63_l := s_l.len63
 refine calls_of r_spec_NextClear ?_
 refine v_seq <| v_ops ?_
 refine s_box [v_n_towers, v_n_links] rfl (fun h2 b1 hbb1 hzb1 eh2 bxb1 => ?_)
 have E3 := (Ext.refl h).trans eh2
 have z4 := eh2.size
 have lbb1 := bxb1.lt
 refine s_pq (.int .i64 0) <| s_pq (.bool false) <| s_nil <| p_seqN <| v_seq <| v_seq <| v_ops <| s_load (.agg #[v_n_towers, v_n_links]) (fun _ q => bxb1.loadA rfl q) <| s_pq v_l <| s_pq (.int .i64 link) ?_
 have f5 := (s_n_towers.ext eh2)
 have f6 := (s_n_links.ext eh2)
 have f7 := (s_l.ext eh2)
 refine s_call [.agg #[v_n_towers, v_n_links], v_l, .int .i64 link] rfl (spec_fgHas_ok n v_n_towers v_n_links v_l l link _ f5 f6 f7) ?_
 rintro _ h8 ⟨rfl, eh8⟩
 have E9 := E3.trans eh8
 have z10 := eh8.size
 refine s_pq (.bool (!(decide (NetOk n ∧ FogsOk n.links.length l ∧ (0 ≤ link ∧ link ≤ (n.links.length : Int) - 1))))) <| s_pq (.bool (!(decide (NetOk n ∧ FogsOk n.links.length l ∧ (0 ≤ link ∧ link ≤ (n.links.length : Int) - 1))))) ?_
 refine s_splitT rfl (fun c11 => ?_) (fun c11 => ?_)
 ·
  refine s_pass rfl <| s_pass rfl <| s_pass rfl <| s_pq (.bool true) <| s_nil <| p_seqN <| v_condY rfl rfl <| v_seq <| v_ops <| s_pq (.int .i64 0) <| s_pq (.bool false) <| s_nil <| p_seqN <| v_ret <| p_seqR <| p_ret [.int .i64 0, .bool false] (.tuple #[.int .i64 0, .bool false]) (fun _ q => q) rfl ?_
  have ho : (nxOut n l link t) = (0, false) := by first | exact if_neg (askF_not (.inl (by assumption))) | exact if_neg (askF_not (.inr (by assumption))) | exact if_pos (askF_of (by assumption) (by assumption))
  exact ⟨by first | (rw [ho]; done) | rfl, E9⟩
 have c11 := Classical.not_not.1 c11
 refine s_run rfl <| s_pq (.int .i64 t) <| s_run rfl <| s_callS [.int .i64 t] (.bool (decide (0 ≤ t ∧ t ≤ 10000))) rfl (spec_fgTime_ok t _ ) <| s_run rfl <| s_pq (.bool (!(decide (0 ≤ t ∧ t ≤ 10000)))) <| s_pq (.bool (!(decide (0 ≤ t ∧ t ≤ 10000)))) <| s_nil <| p_seqN ?_
 refine v_cond rfl (fun c12 => ?_) (fun c12 => ?_)
 ·
  refine v_seq <| v_ops <| s_pq (.int .i64 0) <| s_pq (.bool false) <| s_nil <| p_seqN <| v_ret <| p_seqR <| p_ret [.int .i64 0, .bool false] (.tuple #[.int .i64 0, .bool false]) (fun _ q => q) rfl ?_
  have ho : (nxOut n l link t) = (0, false) := by first | exact if_neg (askF_not (.inl (by assumption))) | exact if_neg (askF_not (.inr (by assumption))) | exact if_pos (askF_of (by assumption) (by assumption))
  exact ⟨by first | (rw [ho]; done) | rfl, E9⟩
 have c12 := Classical.not_not.1 c12
 refine v_skip <| p_seqN <| v_seq <| v_ops <| s_pq v_l <| s_pq (.int .i64 link) <| s_pq (.int .i64 t) ?_
 have f13 := (f7.ext eh8)
 refine s_call [v_l, .int .i64 link, .int .i64 t] rfl (spec_fgNext_ok v_l l link t _ f13 _ (by assumption : NetOk n ∧ FogsOk n.links.length l ∧ (0 ≤ link ∧ link ≤ (n.links.length : Int) - 1)).2.1 ⟨by omega, by omega⟩) ?_
 rintro _ h14 ⟨rfl, eh14⟩
 have E15 := E9.trans eh14
 have z16 := eh14.size
 refine s_pq (.int .i64 (stF l link t 1)) <| s_pq (.bool true) <| s_nil <| p_seqN <| v_ret <| p_ret [.int .i64 (stF l link t 1), .bool true] (.tuple #[.int .i64 (stF l link t 1), .bool true]) (fun _ q => q) rfl ?_
 have ho : (nxOut n l link t) = ((stF l link t 1), true) := by first | exact if_neg (askF_not (.inl (by assumption))) | exact if_neg (askF_not (.inr (by assumption))) | exact if_pos (askF_of (by assumption) (by assumption))
 exact ⟨by first | (rw [ho]; done) | rfl, E15⟩

set_option maxRecDepth 10000 in
set_option maxHeartbeats 4000000 in
theorem impl_FogSeconds_ok (n : NetP) (v_n_towers : Value) (v_n_links : Value) (v_l : Value) (l : List FogD) (link : Int) (a : Int) (b : Int) (h : Heap) (s_n_towers : Sl h v_n_towers n.towers) (s_n_links : Sl h v_n_links n.links) (s_l : Sl h v_l l) : Cn f_impl_FogSeconds [.agg #[v_n_towers, v_n_links], v_l, .int .i64 link, .int .i64 a, .int .i64 b] h fun v h' => v = .tuple #[.int .i64 ((fsOut n l link a b).1), .bool ((fsOut n l link a b).2)] ∧ Ext h h' := by
 have l63_n_towers := s_n_towers.len63
 have l63_n_links := s_n_links.len63
 have l63_l := s_l.len63
 refine calls_of r_impl_FogSeconds ?_
 refine v_seq <| v_ops ?_
 refine s_box [v_n_towers, v_n_links] rfl (fun h2 b1 hbb1 hzb1 eh2 bxb1 => ?_)
 have E3 := (Ext.refl h).trans eh2
 have z4 := eh2.size
 have lbb1 := bxb1.lt
 refine s_pq (.int .i64 0) <| s_pq (.bool false) <| s_nil <| p_seqN <| v_seq <| v_seq <| v_ops <| s_load (.agg #[v_n_towers, v_n_links]) (fun _ q => bxb1.loadA rfl q) <| s_pq v_l <| s_pq (.int .i64 link) <| s_pq (.int .i64 a) <| s_pq (.int .i64 b) ?_
 have f5 := (s_n_towers.ext eh2)
 have f6 := (s_n_links.ext eh2)
 have f7 := (s_l.ext eh2)
 refine s_call [.agg #[v_n_towers, v_n_links], v_l, .int .i64 link, .int .i64 a, .int .i64 b] rfl (impl_fogAsked_ok n v_n_towers v_n_links v_l l link a b _ f5 f6 f7) ?_
 rintro _ h8 ⟨rfl, eh8⟩
 have E9 := E3.trans eh8
 have z10 := eh8.size
 refine s_pq (.bool (!(decide (AskF n l link a b)))) <| s_nil <| p_seqN ?_
 refine v_cond rfl (fun c11 => ?_) (fun c11 => ?_)
 ·
  refine v_seq <| v_ops <| s_pq (.int .i64 0) <| s_pq (.bool false) <| s_nil <| p_seqN <| v_ret <| p_seqR <| p_ret [.int .i64 0, .bool false] (.tuple #[.int .i64 0, .bool false]) (fun _ q => q) rfl ?_
  have ho : (fsOut n l link a b) = (0, false) := by first | exact if_neg (by assumption) | (rw [fsOut, if_pos (by assumption), hu, take_all (by assumption)])
  exact ⟨by first | (rw [ho]; done) | rfl, E9⟩
 have c11 := Classical.not_not.1 c11
 refine v_skip <| p_seqN <| v_seq <| v_ops <| s_pq (.int .i64 0) <| s_nil <| p_seqN <| v_seq <| v_seq <| v_ops <| s_pq v_l <| s_pure (.int .i64 (l.length : Int)) (fun _ q => f7.lenVC q) <| s_pq (.int .i64 0) <| s_nil <| p_seqN <| v_block <| v_loop2 (α := Nat) (β := Int) (fun k u => [(2, .int .i64 link), (3, .int .i64 a), (4, .int .i64 b), (12, .int .i64 u), (22, v_l), (23, .int .i64 (l.length : Int)), (24, .int .i64 (k : Int))]) (fun k u hh => Ext h hh ∧ k ≤ l.length ∧ u = fgSec (l.take k) link a b) (fun k u => l.length - k) 0 0 ⟨rfl, rfl, rfl, rfl, rfl, rfl, rfl⟩ ⟨E9, (by simp [fgSec])⟩ ?_
 rintro k u R13 h12 ⟨Eh, ⟨hk, hu⟩⟩
 have zEh := Eh.size
 have f17 := s_l.ext Eh
 have hq := (by assumption : AskF n l link a b)
 have hf := hq.hf
 have ha := hq.ha
 have hab := hq.hab
 have hb0 := hq.hb
 have hb := fgSec_bd l link hab (by omega) k
 rw [← hu] at hb
 have h60 := hf.1
 refine v_seq <| v_ops <| s_pq (.bool (decide ((k : Int) < (l.length : Int)))) <| s_nil <| p_seqN <| v_seq ?_
 refine v_cond rfl (fun c18 => ?_) (fun c18 => ?_)
 ·
  refine v_skip <| p_seqN <| v_seq <| v_block <| v_seq <| v_ops ?_
  have hk19 : k < l.length := (by first | omega | (simp; omega))
  obtain ⟨x20, hx20⟩ : ∃ x, l[k]? = some x := ⟨_, List.getElem?_eq_getElem hk19⟩
  refine s_pure (.pointer (some ⟨sblk v_l, soff v_l + k * 3, none⟩)) (fun _ q => f17.idx (k := k) rfl hk19 q) <| s_load (.agg #[.int .i64 x20.link, .int .i64 x20.fr, .int .i64 x20.til]) (fun _ q => f17.loadN hx20 rfl q) ?_
  refine s_new (fun h22 b21 hbb21 hzb21 eh22 bxb21 => ?_)
  have E23 := Eh.trans eh22
  have z24 := eh22.size
  have lbb21 := bxb21.lt
  refine s_stBx (.agg #[.int .i64 x20.link, .int .i64 x20.fr, .int .i64 x20.til]) [.int .i64 x20.link, .int .i64 x20.fr, .int .i64 x20.til] [.int .i64 x20.link, .int .i64 x20.fr, .int .i64 x20.til] bxb21 rfl rfl rfl rfl (by simp) (all_cons rfl (all_cons rfl (all_cons rfl all_nil))) rfl (fun h25 mh25 sh25 bxx26 => ?_)
  have E27 := E23.mod mh25 (fun b hb => by simp at hb; omega)
  refine s_nil <| p_seqN <| v_seq <| v_ops <| s_pq (.pointer (some ⟨b21, 0, none⟩)) <| s_load (.int .i64 x20.link) (fun _ q => bxx26.load rfl q) <| s_pq (.int .i64 link) <| s_pq (.bool (x20.link == link)) <| s_nil <| p_seqN ?_
  refine v_cond rfl (fun c28 => ?_) (fun c28 => ?_)
  ·
   refine v_ops <| s_pq (.int .i64 u) <| s_pq (.pointer (some ⟨b21, 2, none⟩)) <| s_load (.int .i64 x20.til) (fun _ q => bxx26.load rfl q) <| s_pq (.int .i64 b) <| s_pq (.int .i64 (if b < x20.til then b else x20.til)) <| s_pq (.pointer (some ⟨b21, 1, none⟩)) <| s_load (.int .i64 x20.fr) (fun _ q => bxx26.load rfl q) <| s_pq (.int .i64 a) <| s_pq (.int .i64 (if a > x20.fr then a else x20.fr)) <| s_pure (.int .i64 ((if b < x20.til then b else x20.til) - (if a > x20.fr then a else x20.fr))) (fun _ q => ArithVC.mk (by have q_ := hf.at (by assumption : l[k]? = some _); (have q2_ := fun x => ov_bd (x := x) hab); first | omega | (rw [ov_spec]; (have q3_ := q2_ x20); omega) | (rw [ov_impl]; (have q3_ := q2_ x20); omega) | ((repeat split) <;> omega)) q) ?_
   refine s_pq (.int .i64 (if ((if b < x20.til then b else x20.til) - (if a > x20.fr then a else x20.fr)) > 0 then ((if b < x20.til then b else x20.til) - (if a > x20.fr then a else x20.fr)) else 0)) <| s_pure (.int .i64 (u + (if ((if b < x20.til then b else x20.til) - (if a > x20.fr then a else x20.fr)) > 0 then ((if b < x20.til then b else x20.til) - (if a > x20.fr then a else x20.fr)) else 0))) (fun _ q => ArithVC.mk (by have q_ := hf.at (by assumption : l[k]? = some _); (have q2_ := fun x => ov_bd (x := x) hab); first | omega | (rw [ov_spec]; (have q3_ := q2_ x20); omega) | (rw [ov_impl]; (have q3_ := q2_ x20); omega) | ((repeat split) <;> omega)) q) ?_
   refine s_pq (.int .i64 (u + (if ((if b < x20.til then b else x20.til) - (if a > x20.fr then a else x20.fr)) > 0 then ((if b < x20.til then b else x20.til) - (if a > x20.fr then a else x20.fr)) else 0))) <| s_nil <| p_blkN <| p_seqN <| v_ops <| s_pure (.int .i64 ((k : Int) + 1)) (fun _ q => ArithVC.mk (by omega) q) <| s_pq (.int .i64 ((k : Int) + 1)) <| s_nil ?_
   exact p_lpN ⟨k + 1, (u + (if ((if b < x20.til then b else x20.til) - (if a > x20.fr then a else x20.fr)) > 0 then ((if b < x20.til then b else x20.til) - (if a > x20.fr then a else x20.fr)) else 0)), ⟨rfl, rfl, rfl, rfl, rfl, rfl, rfl⟩, ⟨E27, (by exact ⟨by omega, by rw [snoc_get (by assumption), fgSec_snoc, ← hu]; first | (rw [ov_spec, if_pos (by omega)]; done) | (rw [ov_impl, if_pos (by omega)]; done) | (rw [if_neg (by omega)]; done)⟩)⟩, by omega⟩
  refine v_skip <| p_blkN <| p_seqN <| v_ops <| s_pure (.int .i64 ((k : Int) + 1)) (fun _ q => ArithVC.mk (by omega) q) <| s_pq (.int .i64 ((k : Int) + 1)) <| s_nil ?_
  exact p_lpN ⟨k + 1, u, ⟨rfl, rfl, rfl, rfl, rfl, rfl, rfl⟩, ⟨E27, (by exact ⟨by omega, by rw [snoc_get (by assumption), fgSec_snoc, ← hu]; first | (rw [ov_spec, if_pos (by omega)]; done) | (rw [ov_impl, if_pos (by omega)]; done) | (rw [if_neg (by omega)]; done)⟩)⟩, by omega⟩
 refine v_exit <| p_seqX <| p_lpX <| p_blkX <| p_seqN <| v_seq <| v_ops <| s_pq (.int .i64 u) <| s_pq (.int .i64 u) <| s_pq (.bool true) <| s_nil <| p_seqN <| v_ret <| p_ret [.int .i64 u, .bool true] (.tuple #[.int .i64 u, .bool true]) (fun _ q => q) rfl ?_
 have ho : (fsOut n l link a b) = (u, true) := by first | exact if_neg (by assumption) | (rw [fsOut, if_pos (by assumption), hu, take_all (by assumption)])
 exact ⟨by first | (rw [ho]; done) | rfl, Eh⟩

theorem spec_FogSeconds_ok (n : NetP) (v_n_towers : Value) (v_n_links : Value) (v_l : Value) (l : List FogD) (link : Int) (a : Int) (b : Int) (h : Heap) (s_n_towers : Sl h v_n_towers n.towers) (s_n_links : Sl h v_n_links n.links) (s_l : Sl h v_l l) : Cn f_spec_FogSeconds [.agg #[v_n_towers, v_n_links], v_l, .int .i64 link, .int .i64 a, .int .i64 b] h fun v h' => v = .tuple #[.int .i64 ((fsOut n l link a b).1), .bool ((fsOut n l link a b).2)] ∧ Ext h h' := by
 have l63_n_towers := s_n_towers.len63
 have l63_n_links := s_n_links.len63
 have l63_l := s_l.len63
 refine calls_of r_spec_FogSeconds ?_
 refine v_seq <| v_ops ?_
 refine s_box [v_n_towers, v_n_links] rfl (fun h2 b1 hbb1 hzb1 eh2 bxb1 => ?_)
 have E3 := (Ext.refl h).trans eh2
 have z4 := eh2.size
 have lbb1 := bxb1.lt
 refine s_pq (.int .i64 0) <| s_pq (.bool false) <| s_nil <| p_seqN <| v_seq <| v_seq <| v_ops <| s_load (.agg #[v_n_towers, v_n_links]) (fun _ q => bxb1.loadA rfl q) <| s_pq v_l <| s_pq (.int .i64 link) <| s_pq (.int .i64 a) <| s_pq (.int .i64 b) ?_
 have f5 := (s_n_towers.ext eh2)
 have f6 := (s_n_links.ext eh2)
 have f7 := (s_l.ext eh2)
 refine s_call [.agg #[v_n_towers, v_n_links], v_l, .int .i64 link, .int .i64 a, .int .i64 b] rfl (spec_fgSpan_ok n v_n_towers v_n_links v_l l link a b _ f5 f6 f7) ?_
 rintro _ h8 ⟨rfl, eh8⟩
 have E9 := E3.trans eh8
 have z10 := eh8.size
 refine s_pq (.bool (!(decide (AskF n l link a b)))) <| s_nil <| p_seqN ?_
 refine v_cond rfl (fun c11 => ?_) (fun c11 => ?_)
 ·
  refine v_seq <| v_ops <| s_pq (.int .i64 0) <| s_pq (.bool false) <| s_nil <| p_seqN <| v_ret <| p_seqR <| p_ret [.int .i64 0, .bool false] (.tuple #[.int .i64 0, .bool false]) (fun _ q => q) rfl ?_
  have ho : (fsOut n l link a b) = (0, false) := by first | exact if_neg (by assumption) | exact if_pos (by assumption)
  exact ⟨by first | (rw [ho]; done) | rfl, E9⟩
 have c11 := Classical.not_not.1 c11
 refine v_skip <| p_seqN <| v_seq <| v_ops <| s_pq v_l <| s_pq (.int .i64 link) <| s_pq (.int .i64 a) <| s_pq (.int .i64 b) ?_
 have f12 := (f7.ext eh8)
 refine s_call [v_l, .int .i64 link, .int .i64 a, .int .i64 b] rfl (spec_fgSeconds_ok v_l l link a b _ f12 _ (by assumption : AskF _ _ _ _ _).hf (by assumption : AskF _ _ _ _ _).ha (by assumption : AskF _ _ _ _ _).hab (by assumption : AskF _ _ _ _ _).hb) ?_
 rintro _ h13 ⟨rfl, eh13⟩
 have E14 := E9.trans eh13
 have z15 := eh13.size
 refine s_pq (.int .i64 (fgSec l link a b)) <| s_pq (.bool true) <| s_nil <| p_seqN <| v_ret <| p_ret [.int .i64 (fgSec l link a b), .bool true] (.tuple #[.int .i64 (fgSec l link a b), .bool true]) (fun _ q => q) rfl ?_
 have ho : (fsOut n l link a b) = ((fgSec l link a b), true) := by first | exact if_neg (by assumption) | exact if_pos (by assumption)
 exact ⟨by first | (rw [ho]; done) | rfl, E14⟩

theorem impl_AreFogs_ok (n : NetP) (v_n_towers : Value) (v_n_links : Value) (v_l : Value) (l : List FogD) (h : Heap) (s_n_towers : Sl h v_n_towers n.towers) (s_n_links : Sl h v_n_links n.links) (s_l : Sl h v_l l) : Cn f_impl_AreFogs [.agg #[v_n_towers, v_n_links], v_l] h fun v h' => v = .tuple #[.bool ((afOut n l).1), .bool ((afOut n l).2)] ∧ Ext h h' := by
 have l63_n_towers := s_n_towers.len63
 have l63_n_links := s_n_links.len63
 have l63_l := s_l.len63
 refine calls_of r_impl_AreFogs ?_
 refine v_seq <| v_ops ?_
 refine s_box [v_n_towers, v_n_links] rfl (fun h2 b1 hbb1 hzb1 eh2 bxb1 => ?_)
 have E3 := (Ext.refl h).trans eh2
 have z4 := eh2.size
 have lbb1 := bxb1.lt
 refine s_pq (.bool false) <| s_pq (.bool false) <| s_nil <| p_seqN <| v_seq <| v_seq <| v_ops <| s_load (.agg #[v_n_towers, v_n_links]) (fun _ q => bxb1.loadA rfl q) ?_
 have f5 := (s_n_towers.ext eh2)
 have f6 := (s_n_links.ext eh2)
 refine s_call [.agg #[v_n_towers, v_n_links]] rfl (impl_IsNet_ok n v_n_towers v_n_links _ f5 f6) ?_
 rintro _ h7 ⟨rfl, eh7⟩
 have E8 := E3.trans eh7
 have z9 := eh7.size
 refine s_pq (.bool (!decide (NetOk n))) <| s_nil <| p_seqN ?_
 refine v_cond rfl (fun c10 => ?_) (fun c10 => ?_)
 ·
  refine v_seq <| v_ops <| s_pq (.bool false) <| s_pq (.bool false) <| s_nil <| p_seqN <| v_ret <| p_seqR <| p_ret [.bool false, .bool false] (.tuple #[.bool false, .bool false]) (fun _ q => q) rfl ?_
  have ho : (afOut n l) = (false, false) := by first | exact if_neg (by assumption) | exact if_pos (by assumption)
  exact ⟨by first | (rw [ho]; done) | rfl, E8⟩
 have c10 := Classical.not_not.1 c10
 refine v_skip <| p_seqN <| v_seq <| v_ops ?_
 have f11 := (bxb1.ext eh7)
 refine s_load (.agg #[v_n_towers, v_n_links]) (fun _ q => f11.loadA rfl q) <| s_pq v_l ?_
 have f12 := (f5.ext eh7)
 have f13 := (f6.ext eh7)
 have f14 := ((s_l.ext eh2).ext eh7)
 refine s_call [.agg #[v_n_towers, v_n_links], v_l] rfl (impl_areFogs_ok n v_n_towers v_n_links v_l l _ f12 f13 f14) ?_
 rintro _ h15 ⟨rfl, eh15⟩
 have E16 := E8.trans eh15
 have z17 := eh15.size
 refine s_pq (.bool (decide (FogsOk n.links.length l))) <| s_pq (.bool true) <| s_nil <| p_seqN <| v_ret <| p_ret [.bool (decide (FogsOk n.links.length l)), .bool true] (.tuple #[.bool (decide (FogsOk n.links.length l)), .bool true]) (fun _ q => q) rfl ?_
 have ho : (afOut n l) = ((decide (FogsOk n.links.length l)), true) := by first | exact if_neg (by assumption) | exact if_pos (by assumption)
 exact ⟨by first | (rw [ho]; done) | rfl, E16⟩

end Go.Proofs.Ytloicopmcagikaa


/- What is drawn for the laws of fogs. Condition: none. Printed in part by a program. -/
namespace Go.Proofs.Ytloicopmcagikaa
open Go.Vc
set_option linter.all false
theorem spec_DrawIsClear_ok (v_code : Value) (code : List By) (h : Heap) (s_code : Sl h v_code code) (hby : ∀ y ∈ code, 0 ≤ y.n ∧ y.n ≤ 255) (hsz : code.length ≤ 2000000) : Cn f_spec_DrawIsClear [v_code] h fun v h' => ∃ g0 : NetP, ∃ g1 : List FogD, ∃ g2 : Int, ∃ g3 : Int, ∃ r0 : Value, ∃ r1 : Value, ∃ r2 : Value, v = .tuple #[.agg #[r0, r1], r2, .int .i64 g2, .int .i64 g3] ∧ SlO h' r0 g0.towers ∧ Fr h.size r0 ∧ SlO h' r1 g0.links ∧ Fr h.size r1 ∧ SlO h' r2 g1 ∧ Fr h.size r2 ∧ (∀ b ∈ blks r0, b ∉ blks r1) ∧ (∀ b ∈ blks r0, b ∉ blks r2) ∧ (∀ b ∈ blks r1, b ∉ blks r2) ∧ (g0.towers.length ≤ 20 ∧ g0.links.length ≤ 50 ∧ g1.length ≤ 61) ∧ Ext h h' := by
 have lt_code := s_code.lt
 have l63_code := s_code.len63
 refine calls_of r_spec_DrawIsClear ?_
 refine v_seq <| v_ops ?_
 refine s_new (fun h2 b1 hbb1 hzb1 eh2 bxb1 => ?_)
 have E3 := (Ext.refl h).trans eh2
 have z4 := eh2.size
 have lbb1 := bxb1.lt
 refine s_pq (.slice none 0 0) <| s_pq (.int .i64 0) <| s_pq (.int .i64 0) <| s_nil <| p_seqN <| v_seq <| v_ops <| s_pq v_code <| s_pure (.agg #[v_code, .int .i64 0, .int .u64 0]) (fun _ q => w_build (seg_sl s_code rfl (seg_nil q))) ?_
 refine s_box [v_code, .int .i64 0, .int .u64 0] rfl (fun h6 b5 hbb5 hzb5 eh6 bxb5 => ?_)
 have E7 := E3.trans eh6
 have z8 := eh6.size
 have lbb5 := bxb5.lt
 refine s_pq (.pointer (some ⟨b5, 0, none⟩)) <| s_nil <| p_seqN <| v_seq <| v_ops <| s_pq (.pointer (some ⟨b5, 0, none⟩)) ?_
 have f9 := ((s_code.ext eh2).ext eh6)
 have C10 : Cur h6 b5 66 0 h.size := Cur.mk2 bxb5 f9 lt_code hby (by omega) (by omega)
 refine s_call [.pointer (some ⟨b5, 0, none⟩)] rfl (spec_l1Cur_foggy_ok b5 66 0 h.size _ C10 (by omega)) ?_
 rintro _ h16 ⟨g11, g14, r12, r13, r15, rfl, s_r12, fr_r12, s_r13, fr_r13, s_r15, fr_r15, ap_r12_r13, ap_r12_r15, ap_r13_r15, qh16, Ch16, mh16⟩
 have zh16 := mh16.size
 have E17 := E7.mod mh16 (fun b hb => by simp at hb; omega)
 have lt_r12 := s_r12.lt
 have lt_r13 := s_r13.lt
 have lt_r15 := s_r15.lt
 refine s_pq (.tuple #[.agg #[r12, r13], r15]) <| s_pq (.agg #[r12, r13]) <| s_pq r15 ?_
 refine s_new (fun h19 b18 hbb18 hzb18 eh19 bxb18 => ?_)
 have E20 := E17.trans eh19
 have z21 := eh19.size
 have lbb18 := bxb18.lt
 refine s_stBx (.agg #[r12, r13]) [r12, r13] [r12, r13] bxb18 rfl rfl rfl rfl (by simp) (all_cons s_r12.one1 (all_cons s_r13.one1 all_nil)) rfl (fun h22 mh22 sh22 bxx23 => ?_)
 have E24 := E20.mod mh22 (fun b hb => by simp at hb; omega)
 refine s_pq r15 <| s_nil <| p_seqN <| v_seq ?_
 refine v_draw (DrawVC.hold ([b18]) ?_)
 refine d_pq r15 <| d_pq (.pointer (some ⟨b5, 0, none⟩)) <| d_pq (.pointer (some ⟨b5, 0, none⟩)) <| d_loadO (.agg #[r12, r13]) (fun _ q => bxx23.loadA rfl q) <| d_loadT (.agg #[r12, r13]) (fun _ q => bxx23.takeA (by simp) rfl q) <| d_eff ?_
 have f25 := ((Ch16.ext eh19).mod mh22 (by simp; omega) (fun b hb => by simp at hb; omega))
 have f26 := ((s_r12.ext eh19).mod mh22 (fun b hb hc => by simp at hc; have := lt_r12 b hb; omega))
 have f27 := ((s_r13.ext eh19).mod mh22 (fun b hb hc => by simp at hc; have := lt_r13 b hb; omega))
 refine s_call [.pointer (some ⟨b5, 0, none⟩), .agg #[r12, r13]] rfl (spec_l1Cur_link_ok b5 66 (0 + 12000) h.size g11 r12 r13 _ f25 f26.toSl (fun b hb hc => by simp at hc; have := fr_r12 b hb; omega) f27.toSl (fun b hb hc => by simp at hc; have := fr_r13 b hb; omega) (by omega) (by first | omega | assumption | (simp; done) | (simp; omega))) ?_
 rintro _ h29 ⟨g28, rfl, qh29, Ch29, mh29⟩
 have zh29 := mh29.size
 have E30 := E24.mod mh29 (fun b hb => by simp at hb; omega)
 have G31 := gmod1 (b := b18) (h := h22) (h0 := h22) mh29 (by omega) (by simp; omega) (fun _ _ => rfl)
 refine s_nil ⟨fun _ x hx => G31 x hx, ?_⟩
 refine d_eff <| s_call [.pointer (some ⟨b5, 0, none⟩)] rfl (spec_l1Cur_second_ok b5 66 ((0 + 12000) + 20) h.size _ Ch29 (by omega)) ?_
 rintro _ h33 ⟨g32, rfl, qh33, Ch33, mh33⟩
 have zh33 := mh33.size
 have E34 := E30.mod mh33 (fun b hb => by simp at hb; omega)
 have G35 := gmod1 (b := b18) (h := h29) (h0 := h22) mh33 (by omega) (by simp; omega) G31
 refine s_nil ⟨fun _ x hx => G35 x hx, ?_⟩
 refine d_eff ?_
 have f36 := ((((((bxb1.ext eh6).mod mh16 (by simp; omega)).ext eh19).mod mh22 (by simp; omega)).mod mh29 (by simp; omega)).mod mh33 (by simp; omega))
 refine s_stBx (.agg #[r12, r13]) [r12, r13] [r12, r13] f36 rfl rfl rfl rfl (by simp) (all_cons f26.one1 (all_cons f27.one1 all_nil)) rfl (fun h37 mh37 sh37 bxx38 => ?_)
 have E39 := E34.mod mh37 (fun b hb => by simp at hb; omega)
 refine s_nil ⟨fun hl => (by cases hl), ?_⟩
 refine d_pq r15 <| d_pq (.int .i64 g28) <| d_pq (.int .i64 g32) <| d_done <| p_seqN <| v_ret <| p_ret [.agg #[r12, r13], r15, .int .i64 g28, .int .i64 g32] (.tuple #[.agg #[r12, r13], r15, .int .i64 g28, .int .i64 g32]) (fun _ q => (bxx38.loadA rfl q)) rfl ?_
 have f40 := (((f26.mod mh29 (fun b hb hc => by simp at hc; have := fr_r12 b hb; omega)).mod mh33 (fun b hb hc => by simp at hc; have := fr_r12 b hb; omega)).mod mh37 (fun b hb hc => by simp at hc; have := fr_r12 b hb; omega))
 have f41 := (((f27.mod mh29 (fun b hb hc => by simp at hc; have := fr_r13 b hb; omega)).mod mh33 (fun b hb hc => by simp at hc; have := fr_r13 b hb; omega)).mod mh37 (fun b hb hc => by simp at hc; have := fr_r13 b hb; omega))
 have f42 := (((((s_r15.ext eh19).mod mh22 (fun b hb hc => by simp at hc; have := lt_r15 b hb; omega)).mod mh29 (fun b hb hc => by simp at hc; have := fr_r15 b hb; omega)).mod mh33 (fun b hb hc => by simp at hc; have := fr_r15 b hb; omega)).mod mh37 (fun b hb hc => by simp at hc; have := fr_r15 b hb; omega))
 exact ⟨⟨g11.towers, g11.links⟩, g14, g28, g32, r12, r13, r15, rfl, f40, (fr_r12.mono (by omega)), f41, (fr_r13.mono (by omega)), f42, (fr_r15.mono (by omega)), ap_r12_r13, ap_r12_r15, ap_r13_r15, (by (try simp only); first | omega | exact ⟨by omega, by omega⟩ | exact ⟨by omega, by omega, by omega⟩), E39⟩

theorem spec_DrawNextClear_ok (v_code : Value) (code : List By) (h : Heap) (s_code : Sl h v_code code) (hby : ∀ y ∈ code, 0 ≤ y.n ∧ y.n ≤ 255) (hsz : code.length ≤ 2000000) : Cn f_spec_DrawNextClear [v_code] h fun v h' => ∃ g0 : NetP, ∃ g1 : List FogD, ∃ g2 : Int, ∃ g3 : Int, ∃ r0 : Value, ∃ r1 : Value, ∃ r2 : Value, v = .tuple #[.agg #[r0, r1], r2, .int .i64 g2, .int .i64 g3] ∧ SlO h' r0 g0.towers ∧ Fr h.size r0 ∧ SlO h' r1 g0.links ∧ Fr h.size r1 ∧ SlO h' r2 g1 ∧ Fr h.size r2 ∧ (∀ b ∈ blks r0, b ∉ blks r1) ∧ (∀ b ∈ blks r0, b ∉ blks r2) ∧ (∀ b ∈ blks r1, b ∉ blks r2) ∧ (g0.towers.length ≤ 20 ∧ g0.links.length ≤ 50 ∧ g1.length ≤ 61) ∧ Ext h h' := by
 have l63_code := s_code.len63
 refine calls_of r_spec_DrawNextClear ?_
 refine v_seq <| v_ops ?_
 refine s_new (fun h2 b1 hbb1 hzb1 eh2 bxb1 => ?_)
 have E3 := (Ext.refl h).trans eh2
 have z4 := eh2.size
 have lbb1 := bxb1.lt
 refine s_pq (.slice none 0 0) <| s_pq (.int .i64 0) <| s_pq (.int .i64 0) <| s_nil <| p_seqN <| v_seq <| v_ops <| s_pq v_code ?_
 have f5 := (s_code.ext eh2)
 refine s_call [v_code] rfl (spec_DrawIsClear_ok v_code code _ f5 (by first | omega | assumption | (simp; done) | (simp; omega)) (by first | omega | assumption | (simp; done) | (simp; omega))) ?_
 rintro _ h13 ⟨g6, g9, g11, g12, r7, r8, r10, rfl, s_r7, fr_r7, s_r8, fr_r8, s_r10, fr_r10, ap_r7_r8, ap_r7_r10, ap_r8_r10, qh13, eh13⟩
 have E14 := E3.trans eh13
 have z15 := eh13.size
 refine s_pq (.agg #[r7, r8]) <| s_pq r10 <| s_pq (.int .i64 g11) <| s_pq (.int .i64 g12) ?_
 have f16 := (bxb1.ext eh13)
 refine s_stBx (.agg #[r7, r8]) [r7, r8] [r7, r8] f16 rfl rfl rfl rfl (by simp) (all_cons s_r7.one1 (all_cons s_r8.one1 all_nil)) rfl (fun h17 mh17 sh17 bxx18 => ?_)
 have E19 := E14.mod mh17 (fun b hb => by simp at hb; omega)
 refine s_pq r10 <| s_pq (.int .i64 g11) <| s_pq (.int .i64 g12) <| s_nil <| p_seqN <| v_ret <| p_ret [.agg #[r7, r8], r10, .int .i64 g11, .int .i64 g12] (.tuple #[.agg #[r7, r8], r10, .int .i64 g11, .int .i64 g12]) (fun _ q => (bxx18.loadA rfl q)) rfl ?_
 have f20 := (s_r7.mod mh17 (fun b hb hc => by simp at hc; have := fr_r7 b hb; omega))
 have f21 := (s_r8.mod mh17 (fun b hb hc => by simp at hc; have := fr_r8 b hb; omega))
 have f22 := (s_r10.mod mh17 (fun b hb hc => by simp at hc; have := fr_r10 b hb; omega))
 exact ⟨⟨g6.towers, g6.links⟩, g9, g11, g12, r7, r8, r10, rfl, f20, (fr_r7.mono (by omega)), f21, (fr_r8.mono (by omega)), f22, (fr_r10.mono (by omega)), ap_r7_r8, ap_r7_r10, ap_r8_r10, (by (try simp only); first | omega | exact ⟨by omega, by omega⟩ | exact ⟨by omega, by omega, by omega⟩), E19⟩

set_option maxRecDepth 10000 in
set_option maxHeartbeats 4000000 in
theorem spec_DrawFogSeconds_ok (v_code : Value) (code : List By) (h : Heap) (s_code : Sl h v_code code) (hby : ∀ y ∈ code, 0 ≤ y.n ∧ y.n ≤ 255) (hsz : code.length ≤ 2000000) : Cn f_spec_DrawFogSeconds [v_code] h fun v h' => ∃ g0 : NetP, ∃ g1 : List FogD, ∃ g2 : Int, ∃ g3 : Int, ∃ g4 : Int, ∃ r0 : Value, ∃ r1 : Value, ∃ r2 : Value, v = .tuple #[.agg #[r0, r1], r2, .int .i64 g2, .int .i64 g3, .int .i64 g4] ∧ SlO h' r0 g0.towers ∧ Fr h.size r0 ∧ SlO h' r1 g0.links ∧ Fr h.size r1 ∧ SlO h' r2 g1 ∧ Fr h.size r2 ∧ (∀ b ∈ blks r0, b ∉ blks r1) ∧ (∀ b ∈ blks r0, b ∉ blks r2) ∧ (∀ b ∈ blks r1, b ∉ blks r2) ∧ (g0.towers.length ≤ 20 ∧ g0.links.length ≤ 50 ∧ g1.length ≤ 61) ∧ Ext h h' := by
 have lt_code := s_code.lt
 have l63_code := s_code.len63
 refine calls_of r_spec_DrawFogSeconds ?_
 refine v_seq <| v_ops ?_
 refine s_new (fun h2 b1 hbb1 hzb1 eh2 bxb1 => ?_)
 have E3 := (Ext.refl h).trans eh2
 have z4 := eh2.size
 have lbb1 := bxb1.lt
 refine s_pq (.slice none 0 0) <| s_pq (.int .i64 0) <| s_pq (.int .i64 0) <| s_pq (.int .i64 0) <| s_nil <| p_seqN <| v_seq <| v_ops <| s_pq v_code <| s_pure (.agg #[v_code, .int .i64 0, .int .u64 0]) (fun _ q => w_build (seg_sl s_code rfl (seg_nil q))) ?_
 refine s_box [v_code, .int .i64 0, .int .u64 0] rfl (fun h6 b5 hbb5 hzb5 eh6 bxb5 => ?_)
 have E7 := E3.trans eh6
 have z8 := eh6.size
 have lbb5 := bxb5.lt
 refine s_pq (.pointer (some ⟨b5, 0, none⟩)) <| s_nil <| p_seqN <| v_seq <| v_ops <| s_pq (.pointer (some ⟨b5, 0, none⟩)) ?_
 have f9 := ((s_code.ext eh2).ext eh6)
 have C10 : Cur h6 b5 66 0 h.size := Cur.mk2 bxb5 f9 lt_code hby (by omega) (by omega)
 refine s_call [.pointer (some ⟨b5, 0, none⟩)] rfl (spec_l1Cur_foggy_ok b5 66 0 h.size _ C10 (by omega)) ?_
 rintro _ h16 ⟨g11, g14, r12, r13, r15, rfl, s_r12, fr_r12, s_r13, fr_r13, s_r15, fr_r15, ap_r12_r13, ap_r12_r15, ap_r13_r15, qh16, Ch16, mh16⟩
 have zh16 := mh16.size
 have E17 := E7.mod mh16 (fun b hb => by simp at hb; omega)
 have lt_r12 := s_r12.lt
 have lt_r13 := s_r13.lt
 have lt_r15 := s_r15.lt
 refine s_pq (.tuple #[.agg #[r12, r13], r15]) <| s_pq (.agg #[r12, r13]) <| s_pq r15 ?_
 refine s_new (fun h19 b18 hbb18 hzb18 eh19 bxb18 => ?_)
 have E20 := E17.trans eh19
 have z21 := eh19.size
 have lbb18 := bxb18.lt
 refine s_stBx (.agg #[r12, r13]) [r12, r13] [r12, r13] bxb18 rfl rfl rfl rfl (by simp) (all_cons s_r12.one1 (all_cons s_r13.one1 all_nil)) rfl (fun h22 mh22 sh22 bxx23 => ?_)
 have E24 := E20.mod mh22 (fun b hb => by simp at hb; omega)
 refine s_pq r15 <| s_nil <| p_seqN <| v_seq <| v_ops <| s_pq (.pointer (some ⟨b5, 0, none⟩)) ?_
 have f25 := ((Ch16.ext eh19).mod mh22 (by simp; omega) (fun b hb => by simp at hb; omega))
 refine s_call [.pointer (some ⟨b5, 0, none⟩)] rfl (spec_l1Cur_second_ok b5 66 (0 + 12000) h.size _ f25 (by omega)) ?_
 rintro _ h27 ⟨g26, rfl, qh27, Ch27, mh27⟩
 have zh27 := mh27.size
 have E28 := E24.mod mh27 (fun b hb => by simp at hb; omega)
 refine s_pq (.int .i64 g26) <| s_nil <| p_seqN <| v_seq ?_
 have f29 := (bxx23.mod mh27 (by simp; omega))
 refine v_draw (DrawVC.hold ([b18]) ?_)
 refine d_pq r15 <| d_pq (.pointer (some ⟨b5, 0, none⟩)) <| d_pq (.int .i64 g26) <| d_pq (.int .i64 g26) <| d_pq (.pointer (some ⟨b5, 0, none⟩)) <| d_pq (.int .i64 g26) <| d_pureT (.int .i64 (10000 - g26)) (fun _ q => ArithVC.mk (by omega) q) <| d_loadT (.agg #[r12, r13]) (fun _ q => f29.takeA (by simp) rfl q) <| d_loadT (.agg #[r12, r13]) (fun _ q => f29.takeA (by simp) rfl q) ?_
 refine d_fork ?_ ?_
 ·
  refine d_eff ?_
  have f30 := (((s_r12.ext eh19).mod mh22 (fun b hb hc => by simp at hc; have := lt_r12 b hb; omega)).mod mh27 (fun b hb hc => by simp at hc; have := fr_r12 b hb; omega))
  have f31 := (((s_r13.ext eh19).mod mh22 (fun b hb hc => by simp at hc; have := lt_r13 b hb; omega)).mod mh27 (fun b hb hc => by simp at hc; have := fr_r13 b hb; omega))
  refine s_call [.pointer (some ⟨b5, 0, none⟩), .agg #[r12, r13]] rfl (spec_l1Cur_link_ok b5 66 ((0 + 12000) + 20) h.size g11 r12 r13 _ Ch27 f30.toSl (fun b hb hc => by simp at hc; have := fr_r12 b hb; omega) f31.toSl (fun b hb hc => by simp at hc; have := fr_r13 b hb; omega) (by omega) (by first | omega | assumption | (simp; done) | (simp; omega))) ?_
  rintro _ h33 ⟨g32, rfl, qh33, Ch33, mh33⟩
  have zh33 := mh33.size
  have E34 := E28.mod mh33 (fun b hb => by simp at hb; omega)
  have G35 := gmod1 (b := b18) (h := h27) (h0 := h27) mh33 (by omega) (by simp; omega) (fun _ _ => rfl)
  refine s_nil ⟨fun _ x hx => G35 x hx, ?_⟩
  refine d_eff ?_
  refine s_row (α := Int) [0, 5, 40, 100, (10000 - g26), (-1)] (fun _ q => seg_i rfl (seg_i rfl (seg_i rfl (seg_i rfl (seg_i rfl (seg_i rfl (seg_nil q))))))) rfl (by simp [maxLen]) (fun r36 h37 eh37 zh37 s_r36 fr_r36 => ?_)
  have E38 := E34.trans eh37
  have z39 := eh37.size
  have G40 := gext1 eh37 (by omega) G35
  refine s_nil ⟨fun _ x hx => G40 x hx, ?_⟩
  refine d_eff ?_
  have f41 := (Ch33.ext eh37)
  refine s_call [.pointer (some ⟨b5, 0, none⟩), r36] rfl (spec_l1Cur_among_ok b5 66 (((0 + 12000) + 20) + 20) h.size r36 [0, 5, 40, 100, (10000 - g26), (-1)] _ f41 s_r36.toSl (fun b hb hc => by simp at hc; have := fr_r36 b hb; omega) (by omega) (by first | omega | assumption | (simp; done) | (simp; omega))) ?_
  rintro _ h43 ⟨g42, rfl, qh43, Ch43, mh43⟩
  have zh43 := mh43.size
  have E44 := E38.mod mh43 (fun b hb => by simp at hb; omega)
  have G45 := gmod1 (b := b18) (h := h37) (h0 := h27) mh43 (by omega) (by simp; omega) G40
  simp only [List.mem_cons, List.not_mem_nil, or_false] at qh43
  refine s_nil ⟨fun _ x hx => G45 x hx, ?_⟩
  refine d_pureT (.int .i64 (g26 + g42)) (fun _ q => ArithVC.mk (by omega) q) <| d_eff ?_
  have f46 := ((((((((bxb1.ext eh6).mod mh16 (by simp; omega)).ext eh19).mod mh22 (by simp; omega)).mod mh27 (by simp; omega)).mod mh33 (by simp; omega)).ext eh37).mod mh43 (by simp; omega))
  refine s_stBx (.agg #[r12, r13]) [r12, r13] [r12, r13] f46 rfl rfl rfl rfl (by simp) (all_cons f30.one1 (all_cons f31.one1 all_nil)) rfl (fun h47 mh47 sh47 bxx48 => ?_)
  have E49 := E44.mod mh47 (fun b hb => by simp at hb; omega)
  refine s_nil ⟨fun hl => (by cases hl), ?_⟩
  refine d_pq r15 <| d_pq (.int .i64 g32) <| d_pq (.int .i64 g26) <| d_pq (.int .i64 (g26 + g42)) <| d_done <| p_seqN <| v_ret <| p_ret [.agg #[r12, r13], r15, .int .i64 g32, .int .i64 g26, .int .i64 (g26 + g42)] (.tuple #[.agg #[r12, r13], r15, .int .i64 g32, .int .i64 g26, .int .i64 (g26 + g42)]) (fun _ q => (bxx48.loadA rfl q)) rfl ?_
  have f50 := ((((f30.mod mh33 (fun b hb hc => by simp at hc; have := fr_r12 b hb; omega)).ext eh37).mod mh43 (fun b hb hc => by simp at hc; have := fr_r12 b hb; omega)).mod mh47 (fun b hb hc => by simp at hc; have := fr_r12 b hb; omega))
  have f51 := ((((f31.mod mh33 (fun b hb hc => by simp at hc; have := fr_r13 b hb; omega)).ext eh37).mod mh43 (fun b hb hc => by simp at hc; have := fr_r13 b hb; omega)).mod mh47 (fun b hb hc => by simp at hc; have := fr_r13 b hb; omega))
  have f52 := (((((((s_r15.ext eh19).mod mh22 (fun b hb hc => by simp at hc; have := lt_r15 b hb; omega)).mod mh27 (fun b hb hc => by simp at hc; have := fr_r15 b hb; omega)).mod mh33 (fun b hb hc => by simp at hc; have := fr_r15 b hb; omega)).ext eh37).mod mh43 (fun b hb hc => by simp at hc; have := fr_r15 b hb; omega)).mod mh47 (fun b hb hc => by simp at hc; have := fr_r15 b hb; omega))
  exact ⟨⟨g11.towers, g11.links⟩, g14, g32, g26, (g26 + g42), r12, r13, r15, rfl, f50, (fr_r12.mono (by omega)), f51, (fr_r13.mono (by omega)), f52, (fr_r15.mono (by omega)), ap_r12_r13, ap_r12_r15, ap_r13_r15, (by (try simp only); first | omega | exact ⟨by omega, by omega⟩ | exact ⟨by omega, by omega, by omega⟩), E49⟩
 refine d_eff ?_
 refine s_row (α := Int) [0, 5, 40, 100, (10000 - g26), (-1)] (fun _ q => seg_i rfl (seg_i rfl (seg_i rfl (seg_i rfl (seg_i rfl (seg_i rfl (seg_nil q))))))) rfl (by simp [maxLen]) (fun r53 h54 eh54 zh54 s_r53 fr_r53 => ?_)
 have E55 := E28.trans eh54
 have z56 := eh54.size
 have G57 := eh54
 refine s_nil ⟨fun _ x hx => G57.blk x (by simp at hx; omega), ?_⟩
 refine d_eff ?_
 have f58 := (Ch27.ext eh54)
 have f59 := ((((s_r12.ext eh19).mod mh22 (fun b hb hc => by simp at hc; have := lt_r12 b hb; omega)).mod mh27 (fun b hb hc => by simp at hc; have := fr_r12 b hb; omega)).ext eh54)
 have f60 := ((((s_r13.ext eh19).mod mh22 (fun b hb hc => by simp at hc; have := lt_r13 b hb; omega)).mod mh27 (fun b hb hc => by simp at hc; have := fr_r13 b hb; omega)).ext eh54)
 refine s_call [.pointer (some ⟨b5, 0, none⟩), .agg #[r12, r13]] rfl (spec_l1Cur_link_ok b5 66 ((0 + 12000) + 20) h.size g11 r12 r13 _ f58 f59.toSl (fun b hb hc => by simp at hc; have := fr_r12 b hb; omega) f60.toSl (fun b hb hc => by simp at hc; have := fr_r13 b hb; omega) (by omega) (by first | omega | assumption | (simp; done) | (simp; omega))) ?_
 rintro _ h62 ⟨g61, rfl, qh62, Ch62, mh62⟩
 have zh62 := mh62.size
 have E63 := E55.mod mh62 (fun b hb => by simp at hb; omega)
 have G64 := gmod1 (b := b18) (h := h54) (h0 := h27) mh62 (by omega) (by simp; omega) (fun x hx => G57.blk x (by simp at hx; omega))
 refine s_nil ⟨fun _ x hx => G64 x hx, ?_⟩
 refine d_eff ?_
 have f65 := (s_r53.mod mh62 (fun b hb hc => by simp at hc; have := fr_r53 b hb; omega))
 refine s_call [.pointer (some ⟨b5, 0, none⟩), r53] rfl (spec_l1Cur_among_ok b5 66 (((0 + 12000) + 20) + 20) h.size r53 [0, 5, 40, 100, (10000 - g26), (-1)] _ Ch62 f65.toSl (fun b hb hc => by simp at hc; have := fr_r53 b hb; omega) (by omega) (by first | omega | assumption | (simp; done) | (simp; omega))) ?_
 rintro _ h67 ⟨g66, rfl, qh67, Ch67, mh67⟩
 have zh67 := mh67.size
 have E68 := E63.mod mh67 (fun b hb => by simp at hb; omega)
 have G69 := gmod1 (b := b18) (h := h62) (h0 := h27) mh67 (by omega) (by simp; omega) G64
 simp only [List.mem_cons, List.not_mem_nil, or_false] at qh67
 refine s_nil ⟨fun _ x hx => G69 x hx, ?_⟩
 refine d_pureT (.int .i64 (g26 + g66)) (fun _ q => ArithVC.mk (by omega) q) <| d_eff ?_
 have f70 := ((((((((bxb1.ext eh6).mod mh16 (by simp; omega)).ext eh19).mod mh22 (by simp; omega)).mod mh27 (by simp; omega)).ext eh54).mod mh62 (by simp; omega)).mod mh67 (by simp; omega))
 refine s_stBx (.agg #[r12, r13]) [r12, r13] [r12, r13] f70 rfl rfl rfl rfl (by simp) (all_cons f59.one1 (all_cons f60.one1 all_nil)) rfl (fun h71 mh71 sh71 bxx72 => ?_)
 have E73 := E68.mod mh71 (fun b hb => by simp at hb; omega)
 refine s_nil ⟨fun hl => (by cases hl), ?_⟩
 refine d_pq r15 <| d_pq (.int .i64 g61) <| d_pq (.int .i64 g26) <| d_pq (.int .i64 (g26 + g66)) <| d_done <| p_seqN <| v_ret <| p_ret [.agg #[r12, r13], r15, .int .i64 g61, .int .i64 g26, .int .i64 (g26 + g66)] (.tuple #[.agg #[r12, r13], r15, .int .i64 g61, .int .i64 g26, .int .i64 (g26 + g66)]) (fun _ q => (bxx72.loadA rfl q)) rfl ?_
 have f74 := (((f59.mod mh62 (fun b hb hc => by simp at hc; have := fr_r12 b hb; omega)).mod mh67 (fun b hb hc => by simp at hc; have := fr_r12 b hb; omega)).mod mh71 (fun b hb hc => by simp at hc; have := fr_r12 b hb; omega))
 have f75 := (((f60.mod mh62 (fun b hb hc => by simp at hc; have := fr_r13 b hb; omega)).mod mh67 (fun b hb hc => by simp at hc; have := fr_r13 b hb; omega)).mod mh71 (fun b hb hc => by simp at hc; have := fr_r13 b hb; omega))
 have f76 := (((((((s_r15.ext eh19).mod mh22 (fun b hb hc => by simp at hc; have := lt_r15 b hb; omega)).mod mh27 (fun b hb hc => by simp at hc; have := fr_r15 b hb; omega)).ext eh54).mod mh62 (fun b hb hc => by simp at hc; have := fr_r15 b hb; omega)).mod mh67 (fun b hb hc => by simp at hc; have := fr_r15 b hb; omega)).mod mh71 (fun b hb hc => by simp at hc; have := fr_r15 b hb; omega))
 exact ⟨⟨g11.towers, g11.links⟩, g14, g61, g26, (g26 + g66), r12, r13, r15, rfl, f74, (fr_r12.mono (by omega)), f75, (fr_r13.mono (by omega)), f76, (fr_r15.mono (by omega)), ap_r12_r13, ap_r12_r15, ap_r13_r15, (by (try simp only); first | omega | exact ⟨by omega, by omega⟩ | exact ⟨by omega, by omega, by omega⟩), E73⟩

theorem spec_DrawClearWindows_ok (v_code : Value) (code : List By) (h : Heap) (s_code : Sl h v_code code) (hby : ∀ y ∈ code, 0 ≤ y.n ∧ y.n ≤ 255) (hsz : code.length ≤ 2000000) : Cn f_spec_DrawClearWindows [v_code] h fun v h' => ∃ g0 : NetP, ∃ g1 : List FogD, ∃ g2 : Int, ∃ g3 : Int, ∃ g4 : Int, ∃ r0 : Value, ∃ r1 : Value, ∃ r2 : Value, v = .tuple #[.agg #[r0, r1], r2, .int .i64 g2, .int .i64 g3, .int .i64 g4] ∧ SlO h' r0 g0.towers ∧ Fr h.size r0 ∧ SlO h' r1 g0.links ∧ Fr h.size r1 ∧ SlO h' r2 g1 ∧ Fr h.size r2 ∧ (∀ b ∈ blks r0, b ∉ blks r1) ∧ (∀ b ∈ blks r0, b ∉ blks r2) ∧ (∀ b ∈ blks r1, b ∉ blks r2) ∧ (g0.towers.length ≤ 20 ∧ g0.links.length ≤ 50 ∧ g1.length ≤ 61) ∧ Ext h h' := by
 have l63_code := s_code.len63
 refine calls_of r_spec_DrawClearWindows ?_
 refine v_seq <| v_ops ?_
 refine s_new (fun h2 b1 hbb1 hzb1 eh2 bxb1 => ?_)
 have E3 := (Ext.refl h).trans eh2
 have z4 := eh2.size
 have lbb1 := bxb1.lt
 refine s_pq (.slice none 0 0) <| s_pq (.int .i64 0) <| s_pq (.int .i64 0) <| s_pq (.int .i64 0) <| s_nil <| p_seqN <| v_seq <| v_ops <| s_pq v_code ?_
 have f5 := (s_code.ext eh2)
 refine s_call [v_code] rfl (spec_DrawFogSeconds_ok v_code code _ f5 (by first | omega | assumption | (simp; done) | (simp; omega)) (by first | omega | assumption | (simp; done) | (simp; omega))) ?_
 rintro _ h14 ⟨g6, g9, g11, g12, g13, r7, r8, r10, rfl, s_r7, fr_r7, s_r8, fr_r8, s_r10, fr_r10, ap_r7_r8, ap_r7_r10, ap_r8_r10, qh14, eh14⟩
 have E15 := E3.trans eh14
 have z16 := eh14.size
 refine s_pq (.agg #[r7, r8]) <| s_pq r10 <| s_pq (.int .i64 g11) <| s_pq (.int .i64 g12) <| s_pq (.int .i64 g13) ?_
 have f17 := (bxb1.ext eh14)
 refine s_stBx (.agg #[r7, r8]) [r7, r8] [r7, r8] f17 rfl rfl rfl rfl (by simp) (all_cons s_r7.one1 (all_cons s_r8.one1 all_nil)) rfl (fun h18 mh18 sh18 bxx19 => ?_)
 have E20 := E15.mod mh18 (fun b hb => by simp at hb; omega)
 refine s_pq r10 <| s_pq (.int .i64 g11) <| s_pq (.int .i64 g12) <| s_pq (.int .i64 g13) <| s_nil <| p_seqN <| v_ret <| p_ret [.agg #[r7, r8], r10, .int .i64 g11, .int .i64 g12, .int .i64 g13] (.tuple #[.agg #[r7, r8], r10, .int .i64 g11, .int .i64 g12, .int .i64 g13]) (fun _ q => (bxx19.loadA rfl q)) rfl ?_
 have f21 := (s_r7.mod mh18 (fun b hb hc => by simp at hc; have := fr_r7 b hb; omega))
 have f22 := (s_r8.mod mh18 (fun b hb hc => by simp at hc; have := fr_r8 b hb; omega))
 have f23 := (s_r10.mod mh18 (fun b hb hc => by simp at hc; have := fr_r10 b hb; omega))
 exact ⟨⟨g6.towers, g6.links⟩, g9, g11, g12, g13, r7, r8, r10, rfl, f21, (fr_r7.mono (by omega)), f22, (fr_r8.mono (by omega)), f23, (fr_r10.mono (by omega)), ap_r7_r8, ap_r7_r10, ap_r8_r10, (by (try simp only); first | omega | exact ⟨by omega, by omega⟩ | exact ⟨by omega, by omega, by omega⟩), E20⟩

set_option maxRecDepth 10000 in
set_option maxHeartbeats 4000000 in
theorem spec_DrawAddFog_ok (v_code : Value) (code : List By) (h : Heap) (s_code : Sl h v_code code) (hby : ∀ y ∈ code, 0 ≤ y.n ∧ y.n ≤ 255) (hsz : code.length ≤ 2000000) : Cn f_spec_DrawAddFog [v_code] h fun v h' => ∃ g0 : NetP, ∃ g1 : List FogD, ∃ g2 : FogD, ∃ r0 : Value, ∃ r1 : Value, ∃ r2 : Value, v = .tuple #[.agg #[r0, r1], r2, .agg #[.int .i64 g2.link, .int .i64 g2.fr, .int .i64 g2.til]] ∧ SlO h' r0 g0.towers ∧ Fr h.size r0 ∧ SlO h' r1 g0.links ∧ Fr h.size r1 ∧ SlO h' r2 g1 ∧ Fr h.size r2 ∧ (∀ b ∈ blks r0, b ∉ blks r1) ∧ (∀ b ∈ blks r0, b ∉ blks r2) ∧ (∀ b ∈ blks r1, b ∉ blks r2) ∧ (g0.towers.length ≤ 20 ∧ g0.links.length ≤ 50 ∧ g1.length ≤ 61) ∧ Ext h h' := by
 have lt_code := s_code.lt
 have l63_code := s_code.len63
 refine calls_of r_spec_DrawAddFog ?_
 refine v_seq <| v_ops ?_
 refine s_new (fun h2 b1 hbb1 hzb1 eh2 bxb1 => ?_)
 have E3 := (Ext.refl h).trans eh2
 have z4 := eh2.size
 have lbb1 := bxb1.lt
 refine s_pq (.slice none 0 0) ?_
 refine s_new (fun h6 b5 hbb5 hzb5 eh6 bxb5 => ?_)
 have E7 := E3.trans eh6
 have z8 := eh6.size
 have lbb5 := bxb5.lt
 refine s_nil <| p_seqN <| v_seq <| v_ops <| s_pq v_code <| s_pure (.agg #[v_code, .int .i64 0, .int .u64 0]) (fun _ q => w_build (seg_sl s_code rfl (seg_nil q))) ?_
 refine s_box [v_code, .int .i64 0, .int .u64 0] rfl (fun h10 b9 hbb9 hzb9 eh10 bxb9 => ?_)
 have E11 := E7.trans eh10
 have z12 := eh10.size
 have lbb9 := bxb9.lt
 refine s_pq (.pointer (some ⟨b9, 0, none⟩)) <| s_nil <| p_seqN <| v_seq <| v_ops <| s_pq (.pointer (some ⟨b9, 0, none⟩)) ?_
 have f13 := (((s_code.ext eh2).ext eh6).ext eh10)
 have C14 : Cur h10 b9 66 0 h.size := Cur.mk2 bxb9 f13 lt_code hby (by omega) (by omega)
 refine s_call [.pointer (some ⟨b9, 0, none⟩)] rfl (spec_l1Cur_foggy_ok b9 66 0 h.size _ C14 (by omega)) ?_
 rintro _ h20 ⟨g15, g18, r16, r17, r19, rfl, s_r16, fr_r16, s_r17, fr_r17, s_r19, fr_r19, ap_r16_r17, ap_r16_r19, ap_r17_r19, qh20, Ch20, mh20⟩
 have zh20 := mh20.size
 have E21 := E11.mod mh20 (fun b hb => by simp at hb; omega)
 have lt_r16 := s_r16.lt
 have lt_r17 := s_r17.lt
 have lt_r19 := s_r19.lt
 refine s_pq (.tuple #[.agg #[r16, r17], r19]) <| s_pq (.agg #[r16, r17]) <| s_pq r19 ?_
 refine s_new (fun h23 b22 hbb22 hzb22 eh23 bxb22 => ?_)
 have E24 := E21.trans eh23
 have z25 := eh23.size
 have lbb22 := bxb22.lt
 refine s_stBx (.agg #[r16, r17]) [r16, r17] [r16, r17] bxb22 rfl rfl rfl rfl (by simp) (all_cons s_r16.one1 (all_cons s_r17.one1 all_nil)) rfl (fun h26 mh26 sh26 bxx27 => ?_)
 have E28 := E24.mod mh26 (fun b hb => by simp at hb; omega)
 refine s_pq r19 <| s_nil <| p_seqN <| v_seq <| v_ops <| s_pq (.pointer (some ⟨b9, 0, none⟩)) ?_
 have f29 := ((Ch20.ext eh23).mod mh26 (by simp; omega) (fun b hb => by simp at hb; omega))
 refine s_call [.pointer (some ⟨b9, 0, none⟩)] rfl (spec_l1Cur_second_ok b9 66 (0 + 12000) h.size _ f29 (by omega)) ?_
 rintro _ h31 ⟨g30, rfl, qh31, Ch31, mh31⟩
 have zh31 := mh31.size
 have E32 := E28.mod mh31 (fun b hb => by simp at hb; omega)
 refine s_pq (.int .i64 g30) <| s_nil <| p_seqN <| v_seq ?_
 have f33 := (bxx27.mod mh31 (by simp; omega))
 refine v_draw (DrawVC.hold ([b22]) ?_)
 refine d_pq r19 <| d_pq (.pointer (some ⟨b9, 0, none⟩)) <| d_pq (.int .i64 g30) <| d_pq (.int .i64 g30) <| d_pq (.pointer (some ⟨b9, 0, none⟩)) <| d_loadT (.agg #[r16, r17]) (fun _ q => f33.takeA (by simp) rfl q) <| d_loadT (.agg #[r16, r17]) (fun _ q => f33.takeA (by simp) rfl q) ?_
 refine d_fork ?_ ?_
 ·
  refine d_eff ?_
  have f34 := (((s_r16.ext eh23).mod mh26 (fun b hb hc => by simp at hc; have := lt_r16 b hb; omega)).mod mh31 (fun b hb hc => by simp at hc; have := fr_r16 b hb; omega))
  have f35 := (((s_r17.ext eh23).mod mh26 (fun b hb hc => by simp at hc; have := lt_r17 b hb; omega)).mod mh31 (fun b hb hc => by simp at hc; have := fr_r17 b hb; omega))
  refine s_call [.pointer (some ⟨b9, 0, none⟩), .agg #[r16, r17]] rfl (spec_l1Cur_link_ok b9 66 ((0 + 12000) + 20) h.size g15 r16 r17 _ Ch31 f34.toSl (fun b hb hc => by simp at hc; have := fr_r16 b hb; omega) f35.toSl (fun b hb hc => by simp at hc; have := fr_r17 b hb; omega) (by omega) (by first | omega | assumption | (simp; done) | (simp; omega))) ?_
  rintro _ h37 ⟨g36, rfl, qh37, Ch37, mh37⟩
  have zh37 := mh37.size
  have E38 := E32.mod mh37 (fun b hb => by simp at hb; omega)
  have G39 := gmod1 (b := b22) (h := h31) (h0 := h31) mh37 (by omega) (by simp; omega) (fun _ _ => rfl)
  refine s_nil ⟨fun _ x hx => G39 x hx, ?_⟩
  refine d_eff ?_
  refine s_row (α := Int) [0, 1, 5, 30, 100] (fun _ q => seg_i rfl (seg_i rfl (seg_i rfl (seg_i rfl (seg_i rfl (seg_nil q)))))) rfl (by simp [maxLen]) (fun r40 h41 eh41 zh41 s_r40 fr_r40 => ?_)
  have E42 := E38.trans eh41
  have z43 := eh41.size
  have G44 := gext1 eh41 (by omega) G39
  refine s_nil ⟨fun _ x hx => G44 x hx, ?_⟩
  refine d_eff ?_
  have f45 := (Ch37.ext eh41)
  refine s_call [.pointer (some ⟨b9, 0, none⟩), r40] rfl (spec_l1Cur_among_ok b9 66 (((0 + 12000) + 20) + 20) h.size r40 [0, 1, 5, 30, 100] _ f45 s_r40.toSl (fun b hb hc => by simp at hc; have := fr_r40 b hb; omega) (by omega) (by first | omega | assumption | (simp; done) | (simp; omega))) ?_
  rintro _ h47 ⟨g46, rfl, qh47, Ch47, mh47⟩
  have zh47 := mh47.size
  have E48 := E42.mod mh47 (fun b hb => by simp at hb; omega)
  have G49 := gmod1 (b := b22) (h := h41) (h0 := h31) mh47 (by omega) (by simp; omega) G44
  simp only [List.mem_cons, List.not_mem_nil, or_false] at qh47
  refine s_nil ⟨fun _ x hx => G49 x hx, ?_⟩
  refine d_pureT (.int .i64 (g30 + g46)) (fun _ q => ArithVC.mk (by omega) q) <| d_pureT (.agg #[.int .i64 g36, .int .i64 g30, .int .i64 (g30 + g46)]) (fun _ q => w_build (seg_i rfl (seg_i rfl (seg_i rfl (seg_nil q))))) <| d_eff ?_
  have f50 := (((((((((bxb1.ext eh6).ext eh10).mod mh20 (by simp; omega)).ext eh23).mod mh26 (by simp; omega)).mod mh31 (by simp; omega)).mod mh37 (by simp; omega)).ext eh41).mod mh47 (by simp; omega))
  refine s_stBx (.agg #[r16, r17]) [r16, r17] [r16, r17] f50 rfl rfl rfl rfl (by simp) (all_cons f34.one1 (all_cons f35.one1 all_nil)) rfl (fun h51 mh51 sh51 bxx52 => ?_)
  have E53 := E48.mod mh51 (fun b hb => by simp at hb; omega)
  refine s_nil ⟨fun hl => (by cases hl), ?_⟩
  refine d_pq r19 <| d_eff ?_
  have f54 := (((((((((bxb5.ext eh10).mod mh20 (by simp; omega)).ext eh23).mod mh26 (by simp; omega)).mod mh31 (by simp; omega)).mod mh37 (by simp; omega)).ext eh41).mod mh47 (by simp; omega)).mod mh51 (by simp; omega))
  refine s_stBx (.agg #[.int .i64 g36, .int .i64 g30, .int .i64 (g30 + g46)]) [.int .i64 g36, .int .i64 g30, .int .i64 (g30 + g46)] [.int .i64 g36, .int .i64 g30, .int .i64 (g30 + g46)] f54 rfl rfl rfl rfl (by simp) (all_cons rfl (all_cons rfl (all_cons rfl all_nil))) rfl (fun h55 mh55 sh55 bxx56 => ?_)
  have E57 := E53.mod mh55 (fun b hb => by simp at hb; omega)
  refine s_nil ⟨fun hl => (by cases hl), ?_⟩
  refine d_done <| p_seqN <| v_ret ?_
  have f58 := (bxx52.mod mh55 (by simp; omega))
  refine p_ret [.agg #[r16, r17], r19, .agg #[.int .i64 g36, .int .i64 g30, .int .i64 (g30 + g46)]] (.tuple #[.agg #[r16, r17], r19, .agg #[.int .i64 g36, .int .i64 g30, .int .i64 (g30 + g46)]]) (fun _ q => (f58.loadA rfl (bxx56.loadA rfl q))) rfl ?_
  have f59 := (((((f34.mod mh37 (fun b hb hc => by simp at hc; have := fr_r16 b hb; omega)).ext eh41).mod mh47 (fun b hb hc => by simp at hc; have := fr_r16 b hb; omega)).mod mh51 (fun b hb hc => by simp at hc; have := fr_r16 b hb; omega)).mod mh55 (fun b hb hc => by simp at hc; have := fr_r16 b hb; omega))
  have f60 := (((((f35.mod mh37 (fun b hb hc => by simp at hc; have := fr_r17 b hb; omega)).ext eh41).mod mh47 (fun b hb hc => by simp at hc; have := fr_r17 b hb; omega)).mod mh51 (fun b hb hc => by simp at hc; have := fr_r17 b hb; omega)).mod mh55 (fun b hb hc => by simp at hc; have := fr_r17 b hb; omega))
  have f61 := ((((((((s_r19.ext eh23).mod mh26 (fun b hb hc => by simp at hc; have := lt_r19 b hb; omega)).mod mh31 (fun b hb hc => by simp at hc; have := fr_r19 b hb; omega)).mod mh37 (fun b hb hc => by simp at hc; have := fr_r19 b hb; omega)).ext eh41).mod mh47 (fun b hb hc => by simp at hc; have := fr_r19 b hb; omega)).mod mh51 (fun b hb hc => by simp at hc; have := fr_r19 b hb; omega)).mod mh55 (fun b hb hc => by simp at hc; have := fr_r19 b hb; omega))
  exact ⟨⟨g15.towers, g15.links⟩, g18, ⟨g36, g30, (g30 + g46)⟩, r16, r17, r19, rfl, f59, (fr_r16.mono (by omega)), f60, (fr_r17.mono (by omega)), f61, (fr_r19.mono (by omega)), ap_r16_r17, ap_r16_r19, ap_r17_r19, (by (try simp only); first | omega | exact ⟨by omega, by omega⟩ | exact ⟨by omega, by omega, by omega⟩), E57⟩
 refine d_eff ?_
 refine s_row (α := Int) [0, 1, 5, 30, 100] (fun _ q => seg_i rfl (seg_i rfl (seg_i rfl (seg_i rfl (seg_i rfl (seg_nil q)))))) rfl (by simp [maxLen]) (fun r62 h63 eh63 zh63 s_r62 fr_r62 => ?_)
 have E64 := E32.trans eh63
 have z65 := eh63.size
 have G66 := eh63
 refine s_nil ⟨fun _ x hx => G66.blk x (by simp at hx; omega), ?_⟩
 refine d_eff ?_
 have f67 := (Ch31.ext eh63)
 have f68 := ((((s_r16.ext eh23).mod mh26 (fun b hb hc => by simp at hc; have := lt_r16 b hb; omega)).mod mh31 (fun b hb hc => by simp at hc; have := fr_r16 b hb; omega)).ext eh63)
 have f69 := ((((s_r17.ext eh23).mod mh26 (fun b hb hc => by simp at hc; have := lt_r17 b hb; omega)).mod mh31 (fun b hb hc => by simp at hc; have := fr_r17 b hb; omega)).ext eh63)
 refine s_call [.pointer (some ⟨b9, 0, none⟩), .agg #[r16, r17]] rfl (spec_l1Cur_link_ok b9 66 ((0 + 12000) + 20) h.size g15 r16 r17 _ f67 f68.toSl (fun b hb hc => by simp at hc; have := fr_r16 b hb; omega) f69.toSl (fun b hb hc => by simp at hc; have := fr_r17 b hb; omega) (by omega) (by first | omega | assumption | (simp; done) | (simp; omega))) ?_
 rintro _ h71 ⟨g70, rfl, qh71, Ch71, mh71⟩
 have zh71 := mh71.size
 have E72 := E64.mod mh71 (fun b hb => by simp at hb; omega)
 have G73 := gmod1 (b := b22) (h := h63) (h0 := h31) mh71 (by omega) (by simp; omega) (fun x hx => G66.blk x (by simp at hx; omega))
 refine s_nil ⟨fun _ x hx => G73 x hx, ?_⟩
 refine d_eff ?_
 have f74 := (s_r62.mod mh71 (fun b hb hc => by simp at hc; have := fr_r62 b hb; omega))
 refine s_call [.pointer (some ⟨b9, 0, none⟩), r62] rfl (spec_l1Cur_among_ok b9 66 (((0 + 12000) + 20) + 20) h.size r62 [0, 1, 5, 30, 100] _ Ch71 f74.toSl (fun b hb hc => by simp at hc; have := fr_r62 b hb; omega) (by omega) (by first | omega | assumption | (simp; done) | (simp; omega))) ?_
 rintro _ h76 ⟨g75, rfl, qh76, Ch76, mh76⟩
 have zh76 := mh76.size
 have E77 := E72.mod mh76 (fun b hb => by simp at hb; omega)
 have G78 := gmod1 (b := b22) (h := h71) (h0 := h31) mh76 (by omega) (by simp; omega) G73
 simp only [List.mem_cons, List.not_mem_nil, or_false] at qh76
 refine s_nil ⟨fun _ x hx => G78 x hx, ?_⟩
 refine d_pureT (.int .i64 (g30 + g75)) (fun _ q => ArithVC.mk (by omega) q) <| d_pureT (.agg #[.int .i64 g70, .int .i64 g30, .int .i64 (g30 + g75)]) (fun _ q => w_build (seg_i rfl (seg_i rfl (seg_i rfl (seg_nil q))))) <| d_eff ?_
 have f79 := (((((((((bxb1.ext eh6).ext eh10).mod mh20 (by simp; omega)).ext eh23).mod mh26 (by simp; omega)).mod mh31 (by simp; omega)).ext eh63).mod mh71 (by simp; omega)).mod mh76 (by simp; omega))
 refine s_stBx (.agg #[r16, r17]) [r16, r17] [r16, r17] f79 rfl rfl rfl rfl (by simp) (all_cons f68.one1 (all_cons f69.one1 all_nil)) rfl (fun h80 mh80 sh80 bxx81 => ?_)
 have E82 := E77.mod mh80 (fun b hb => by simp at hb; omega)
 refine s_nil ⟨fun hl => (by cases hl), ?_⟩
 refine d_pq r19 <| d_eff ?_
 have f83 := (((((((((bxb5.ext eh10).mod mh20 (by simp; omega)).ext eh23).mod mh26 (by simp; omega)).mod mh31 (by simp; omega)).ext eh63).mod mh71 (by simp; omega)).mod mh76 (by simp; omega)).mod mh80 (by simp; omega))
 refine s_stBx (.agg #[.int .i64 g70, .int .i64 g30, .int .i64 (g30 + g75)]) [.int .i64 g70, .int .i64 g30, .int .i64 (g30 + g75)] [.int .i64 g70, .int .i64 g30, .int .i64 (g30 + g75)] f83 rfl rfl rfl rfl (by simp) (all_cons rfl (all_cons rfl (all_cons rfl all_nil))) rfl (fun h84 mh84 sh84 bxx85 => ?_)
 have E86 := E82.mod mh84 (fun b hb => by simp at hb; omega)
 refine s_nil ⟨fun hl => (by cases hl), ?_⟩
 refine d_done <| p_seqN <| v_ret ?_
 have f87 := (bxx81.mod mh84 (by simp; omega))
 refine p_ret [.agg #[r16, r17], r19, .agg #[.int .i64 g70, .int .i64 g30, .int .i64 (g30 + g75)]] (.tuple #[.agg #[r16, r17], r19, .agg #[.int .i64 g70, .int .i64 g30, .int .i64 (g30 + g75)]]) (fun _ q => (f87.loadA rfl (bxx85.loadA rfl q))) rfl ?_
 have f88 := ((((f68.mod mh71 (fun b hb hc => by simp at hc; have := fr_r16 b hb; omega)).mod mh76 (fun b hb hc => by simp at hc; have := fr_r16 b hb; omega)).mod mh80 (fun b hb hc => by simp at hc; have := fr_r16 b hb; omega)).mod mh84 (fun b hb hc => by simp at hc; have := fr_r16 b hb; omega))
 have f89 := ((((f69.mod mh71 (fun b hb hc => by simp at hc; have := fr_r17 b hb; omega)).mod mh76 (fun b hb hc => by simp at hc; have := fr_r17 b hb; omega)).mod mh80 (fun b hb hc => by simp at hc; have := fr_r17 b hb; omega)).mod mh84 (fun b hb hc => by simp at hc; have := fr_r17 b hb; omega))
 have f90 := ((((((((s_r19.ext eh23).mod mh26 (fun b hb hc => by simp at hc; have := lt_r19 b hb; omega)).mod mh31 (fun b hb hc => by simp at hc; have := fr_r19 b hb; omega)).ext eh63).mod mh71 (fun b hb hc => by simp at hc; have := fr_r19 b hb; omega)).mod mh76 (fun b hb hc => by simp at hc; have := fr_r19 b hb; omega)).mod mh80 (fun b hb hc => by simp at hc; have := fr_r19 b hb; omega)).mod mh84 (fun b hb hc => by simp at hc; have := fr_r19 b hb; omega))
 exact ⟨⟨g15.towers, g15.links⟩, g18, ⟨g70, g30, (g30 + g75)⟩, r16, r17, r19, rfl, f88, (fr_r16.mono (by omega)), f89, (fr_r17.mono (by omega)), f90, (fr_r19.mono (by omega)), ap_r16_r17, ap_r16_r19, ap_r17_r19, (by (try simp only); first | omega | exact ⟨by omega, by omega⟩ | exact ⟨by omega, by omega, by omega⟩), E86⟩

end Go.Proofs.Ytloicopmcagikaa


/- Plain facts for the law of fogs: clear windows and seconds of fog fill a range; the next clear second; a fog added. Condition: none. -/
namespace Go.Proofs.Ytloicopmcagikaa
open Go.Vc
set_option linter.all false
theorem ov_zero {x : FogD} {a b : Int} (h : x.til ≤ a ∨ b ≤ x.fr) : ov x a b = 0 := by
 unfold ov
 refine if_neg ?_
 split <;> split <;> omega
theorem ov_in {x : FogD} {a b : Int} (h0 : a < x.til) (h1 : x.fr < b) (h2 : x.fr < x.til) (hab : a ≤ b) : ov x a b = (if x.til < b then x.til else b) - (if x.fr > a then x.fr else a) := by
 have hp : 0 ≤ (if x.til < b then x.til else b) - (if x.fr > a then x.fr else a) := by split <;> split <;> omega
 unfold ov
 generalize (if x.til < b then x.til else b) - (if x.fr > a then x.fr else a) = p at *
 split <;> omega
def gW (r : List Int) (k : Nat) : Int := r.getD k 0
def wTo (a : Int) (W : List (List Int)) : Int × Int := W.foldl (fun s r => (s.1 + (gW r 1 - gW r 0), gW r 1)) (0, a - 1)
theorem wTo_snoc (a : Int) (W : List (List Int)) (r : List Int) : wTo a (W ++ [r]) = ((wTo a W).1 + (gW r 1 - gW r 0), gW r 1) := by simp [wTo]
def WinGood (l : List FogD) (link a b last : Int) (r : List Int) : Prop := ∃ p q, r = [p, q] ∧ a ≤ p ∧ p < q ∧ q ≤ b ∧ last < p ∧ ∀ s, p ≤ s → s < q → ∀ y ∈ l, ¬ Cov link s y
def WinAll (l : List FogD) (link a b : Int) (W : List (List Int)) : Prop := ∀ i r, W[i]? = some r → WinGood l link a b (wTo a (W.take i)).2 r
theorem winAll_snoc {l : List FogD} {link a b : Int} {W : List (List Int)} {r : List Int} (h : WinAll l link a b W) (hr : WinGood l link a b (wTo a W).2 r) : WinAll l link a b (W ++ [r]) := by
  intro i q hq
  by_cases hi : i < W.length
  · rw [List.getElem?_append_left hi] at hq
    rw [List.take_append_of_le_length (by omega)]
    exact h i q hq
  · have hi2 := (List.getElem?_eq_some_iff.1 hq).1
    have hi3 : i = W.length := by simp at hi2; omega
    subst hi3
    rw [List.getElem?_append_right (Nat.le_refl _)] at hq
    simp at hq
    subst hq
    rw [List.take_append_of_le_length (Nat.le_refl _), List.take_length]
    exact hr
theorem gI2 (p q : Int) : gW [p, q] 1 - gW [p, q] 0 = q - p ∧ gW [p, q] 1 = q := ⟨rfl, rfl⟩
theorem win_at {m : Nat} {l : List FogD} (h : FogsOk m l) {link a b : Int} (hab : a ≤ b) : ∀ k, k ≤ l.length →
    a ≤ (cwTo (l.take k) link a b).1 ∧ (∀ j y, j < k → l[j]? = some y → y.link = link → y.til ≤ (cwTo (l.take k) link a b).1 ∨ b ≤ y.fr) ∧
    (∀ j y, k ≤ j → l[j]? = some y → y.link = link → (cwTo (l.take k) link a b).1 = a ∨ (cwTo (l.take k) link a b).1 < y.fr) ∧
    (wTo a (cwTo (l.take k) link a b).2).2 < (cwTo (l.take k) link a b).1 ∧ WinAll l link a b (cwTo (l.take k) link a b).2 ∧
    (wTo a (cwTo (l.take k) link a b).2).1 + fgSec (l.take k) link a b = (if (cwTo (l.take k) link a b).1 < b then (cwTo (l.take k) link a b).1 else b) - a := by
  intro k
  induction k with
  | zero =>
    intro _
    rw [show cwTo (l.take 0) link a b = (a, []) from rfl, show fgSec (l.take 0) link a b = 0 from rfl]
    simp only
    rw [show wTo a [] = (0, a - 1) from rfl]
    simp only
    refine ⟨Int.le_refl _, fun j y hj => absurd hj (Nat.not_lt_zero _), fun j y _ _ _ => .inl trivial, by omega, fun i r hr => by simp at hr, ?_⟩
    by_cases c : a < b
    · rw [if_pos c]; omega
    · rw [if_neg c]; omega
  | succ k ih =>
    intro hk
    obtain ⟨h1, h2, h3, h4, h5, h6⟩ := ih (by omega)
    have hx := List.getElem?_eq_getElem (show k < l.length by omega)
    generalize l[k] = x at hx
    have hxo := h.at hx
    rw [snoc_get hx, cwTo_snoc, fgSec_snoc]
    generalize cwTo (l.take k) link a b = w at *
    obtain ⟨u, ws⟩ := w
    simp only at h1 h2 h3 h4 h5 h6 ⊢
    by_cases hs : x.link ≠ link ∨ x.til ≤ a ∨ x.fr ≥ b
    · have e : cwStep link a b (u, ws) x = (u, ws) := by unfold cwStep; rw [if_pos hs]
      have e2 : (if x.link = link then fgSec (l.take k) link a b + ov x a b else fgSec (l.take k) link a b) = fgSec (l.take k) link a b := by
        by_cases hl : x.link = link
        · rw [if_pos hl, ov_zero (by omega)]; omega
        · rw [if_neg hl]
      rw [e, e2]
      refine ⟨h1, fun j y hj hy hl => ?_, fun j y hj hy hl => h3 j y (by omega) hy hl, h4, h5, h6⟩
      by_cases hjk : j = k
      · subst hjk
        rw [hx] at hy
        obtain rfl := Option.some.inj hy
        simp only; omega
      · exact h2 j y (by omega) hy hl
    · have hl : x.link = link := by omega
      have ha : a < x.til := by omega
      have hb : x.fr < b := by omega
      have hu := h3 k x (Nat.le_refl _) hx hl
      have hprev : ∀ j y, j < k + 1 → l[j]? = some y → y.link = link → y.til ≤ x.til ∨ b ≤ y.fr := fun j y hj hy hyl => by
        by_cases hjk : j = k
        · subst hjk
          rw [hx] at hy
          obtain rfl := Option.some.inj hy
          exact .inl (Int.le_refl _)
        · have := h2 j y (by omega) hy hyl
          omega
      have hnext : ∀ j y, k + 1 ≤ j → l[j]? = some y → y.link = link → x.til < y.fr := fun j y hj hy hyl => (h.lt hx hy (by omega)).2 (by omega)
      rw [if_pos hl, ov_in ha hb hxo.2.2.1 hab]
      by_cases hw : x.fr > u
      · have e : cwStep link a b (u, ws) x = (x.til, ws ++ [[u, x.fr]]) := by unfold cwStep; rw [if_neg hs, if_pos hw]
        rw [e]
        simp only
        have hG : WinGood l link a b (wTo a ws).2 [u, x.fr] := by
          refine ⟨u, x.fr, rfl, h1, hw, by omega, h4, fun s hs0 hs1 y hy hc => ?_⟩
          obtain ⟨j, hj, e⟩ := List.getElem_of_mem hy
          have hy2 : l[j]? = some y := by rw [List.getElem?_eq_getElem hj, e]
          obtain ⟨c1, c2, c3⟩ := hc
          rcases Nat.lt_trichotomy j k with c | c | c
          · have := h2 j y c hy2 c1; omega
          · subst c
            rw [hx] at hy2
            obtain rfl := Option.some.inj hy2
            omega
          · have := hnext j y c hy2 c1; omega
        rw [wTo_snoc, (gI2 u x.fr).1, (gI2 u x.fr).2]
        refine ⟨by omega, hprev, fun j y hj hy hyl => .inr (hnext j y hj hy hyl), by simp only; omega, winAll_snoc h5 hG, ?_⟩
        simp only
        rw [if_pos (by omega)] at h6
        rw [if_pos (by omega : x.fr > a)]
        omega
      · have hua : u = a := by omega
        have e : cwStep link a b (u, ws) x = (x.til, ws) := by unfold cwStep; rw [if_neg hs, if_neg hw]
        rw [e]
        simp only
        refine ⟨by omega, hprev, fun j y hj hy hyl => .inr (hnext j y hj hy hyl), by omega, h5, ?_⟩
        rw [if_neg (by omega : ¬ x.fr > a)]
        have e3 : (if u < b then u else b) = a := by split <;> omega
        rw [e3] at h6
        omega
theorem win_facts {n : NetP} {l : List FogD} {link a b : Int} (h : AskF n l link a b) : WinAll l link a b (cwOut n l link a b).1 ∧ (wTo a (cwOut n l link a b).1).1 + fgSec l link a b = b - a := by
  obtain ⟨h1, h2, h3, h4, h5, h6⟩ := win_at h.hf h.hab (link := link) l.length (Nat.le_refl _)
  rw [List.take_length] at h1 h2 h3 h4 h5 h6
  rw [cwOut, if_pos h, winEnd]
  generalize cwTo l link a b = w at *
  obtain ⟨u, ws⟩ := w
  simp only at h1 h2 h3 h4 h5 h6 ⊢
  by_cases hu : u < b
  · rw [if_pos hu] at h6
    rw [if_pos hu]
    have hG : WinGood l link a b (wTo a ws).2 [u, b] := by
      refine ⟨u, b, rfl, h1, hu, Int.le_refl _, h4, fun s hs0 hs1 y hy hc => ?_⟩
      obtain ⟨j, hj, e⟩ := List.getElem_of_mem hy
      have hy2 : l[j]? = some y := by rw [List.getElem?_eq_getElem hj, e]
      have := h2 j y hj hy2 hc.1
      obtain ⟨c1, c2, c3⟩ := hc
      omega
    refine ⟨winAll_snoc h5 hG, ?_⟩
    rw [wTo_snoc, (gI2 u b).1]
    simp only
    omega
  · rw [if_neg hu] at h6
    rw [if_neg hu]
    exact ⟨h5, h6⟩
theorem win_one {n : NetP} {l : List FogD} {link a b : Int} (h : AskF n l link a b) {k : Nat} {r : List Int} (hr : (cwOut n l link a b).1[k]? = some r) {y z : Int} (hy : r[0]? = some y) (hz : r[1]? = some z) :
    a ≤ y ∧ y < z ∧ z ≤ b ∧ 0 ≤ a ∧ b ≤ 10000 ∧ (wTo a ((cwOut n l link a b).1.take k)).2 < y ∧ clOut n l link y = (true, true) ∧ clOut n l link (z - 1) = (true, true) ∧
    wTo a ((cwOut n l link a b).1.take (k + 1)) = ((wTo a ((cwOut n l link a b).1.take k)).1 + (z - y), z) := by
  obtain ⟨p, q, rfl, h1, h2, h3, h4, h5⟩ := (win_facts h).1 k r hr
  obtain rfl : p = y := Option.some.inj hy
  obtain rfl : q = z := Option.some.inj hz
  have ha := h.ha
  have hb := h.hb
  refine ⟨h1, h2, h3, ha, hb, h4, ?_, ?_, ?_⟩
  · rw [clOut, if_pos ⟨h.hn, h.hf, h.hk, by omega, Int.le_refl _, by omega⟩, clF_true.2 (h5 p (Int.le_refl _) h2)]
  · rw [clOut, if_pos ⟨h.hn, h.hf, h.hk, by omega, Int.le_refl _, by omega⟩, clF_true.2 (h5 (q - 1) (by omega) (by omega))]
  · rw [snoc_get hr, wTo_snoc, (gI2 p q).1, (gI2 p q).2]
theorem win_two {n : NetP} {l : List FogD} {link a b : Int} {k : Nat} {r : List Int} (hr : (cwOut n l link a b).1[k]? = some r) : r.length = 2 := by
  by_cases h : AskF n l link a b
  · obtain ⟨p, q, rfl, _⟩ := (win_facts h).1 k r hr; rfl
  · rw [cw_no h] at hr; simp at hr
theorem win_len (n : NetP) (l : List FogD) (link a b : Int) : (cwOut n l link a b).1.length ≤ 61 := by
  by_cases h : AskF n l link a b
  · have h60 := h.hf.1
    have := (cw_len l link a b).1
    rw [cwOut, if_pos h, winEnd]
    simp only
    split
    · simp; omega
    · omega
  · rw [cw_no h]; simp
/-- the next clear second -/
theorem next_at {m : Nat} {l : List FogD} (h : FogsOk m l) (link t : Int) : ∀ k, k ≤ l.length →
    (stF (l.take k) link t 1 = t ∧ ∀ j y, j < k → l[j]? = some y → ¬ Cov link t y) ∨ (∃ i z, i < k ∧ l[i]? = some z ∧ Cov link t z ∧ stF (l.take k) link t 1 = z.til) := by
  intro k
  induction k with
  | zero => intro _; exact .inl ⟨by simp [stF], fun j y hj => absurd hj (Nat.not_lt_zero _)⟩
  | succ k ih =>
    intro hk
    have hx := List.getElem?_eq_getElem (show k < l.length by omega)
    generalize l[k] = x at hx
    have hxo := h.at hx
    rw [snoc_get hx, stF_snoc]
    rcases ih (by omega) with ⟨h1, h2⟩ | ⟨i, z, hi, hz, hc, h1⟩
    · rw [h1]
      by_cases hc : x.link = link ∧ x.til > t ∧ x.fr < t + 1
      · rw [if_pos hc]
        exact .inr ⟨k, x, Nat.lt_succ_self _, hx, ⟨hc.1, by omega, by omega⟩, rfl⟩
      · rw [if_neg hc]
        refine .inl ⟨rfl, fun j y hj hy => ?_⟩
        by_cases hjk : j = k
        · subst hjk
          rw [hx] at hy
          obtain rfl := Option.some.inj hy
          intro q
          exact hc ⟨q.1, by have := q.2.2; omega, by have := q.2.1; omega⟩
        · exact h2 j y (by omega) hy
    · rw [h1]
      have hlt := h.lt hz hx hi
      rw [if_neg (by have := hc.1; omega)]
      exact .inr ⟨i, z, by omega, hz, hc, rfl⟩
theorem next_facts {n : NetP} {l : List FogD} {link t : Int} (h : AskF n l link t t) : t ≤ stF l link t 1 ∧ (clF l link t = true ↔ stF l link t 1 = t) ∧ clF l link (stF l link t 1) = true := by
  have hb := stF_bd h.hf link t 1 l.length
  have := next_at h.hf link t l.length (Nat.le_refl _)
  rw [List.take_length] at hb this
  rcases this with ⟨h1, h2⟩ | ⟨i, z, hi, hz, hc, h1⟩
  · have hcl : clF l link t = true := clF_true.2 fun y hy => by
      obtain ⟨j, hj, e⟩ := List.getElem_of_mem hy
      exact h2 j y hj (by rw [List.getElem?_eq_getElem hj, e])
    rw [h1]
    exact ⟨Int.le_refl _, ⟨fun _ => rfl, fun _ => hcl⟩, hcl⟩
  · have hno : clF l link t = false := clF_no hz hc
    have hzo := h.hf.at hz
    obtain ⟨c1, c2, c3⟩ := hc
    rw [h1, hno]
    refine ⟨by omega, ⟨fun q => by (cases q), fun q => by omega⟩, clF_true.2 fun y hy hc' => ?_⟩
    obtain ⟨j, hj, e⟩ := List.getElem_of_mem hy
    have hy2 : l[j]? = some y := by rw [List.getElem?_eq_getElem hj, e]
    obtain ⟨d1, d2, d3⟩ := hc'
    rcases Nat.lt_trichotomy j i with c | c | c
    · have := (h.hf.lt hy2 hz c).2 (by omega); omega
    · subst c
      rw [hz] at hy2
      obtain rfl := Option.some.inj hy2
      omega
    · have := (h.hf.lt hz hy2 c).2 (by omega); omega
/-- fog that covers a range fills it -/
theorem sec_full {m : Nat} {l : List FogD} (h : FogsOk m l) {link a b : Int} (hab : a ≤ b) {i : Nat} {u : FogD} (hi : l[i]? = some u) (hl : u.link = link) (h0 : u.fr ≤ a) (h1 : b ≤ u.til) : ∀ k, k ≤ l.length → fgSec (l.take k) link a b = if i < k then b - a else 0 := by
  intro k
  induction k with
  | zero => intro _; simp [fgSec]
  | succ k ih =>
    intro hk
    have hx := List.getElem?_eq_getElem (show k < l.length by omega)
    generalize l[k] = x at hx
    have hxo := h.at hx
    have huo := h.at hi
    rw [snoc_get hx, fgSec_snoc, ih (by omega)]
    rcases Nat.lt_trichotomy i k with c | c | c
    · have := h.lt hi hx c
      rw [if_pos c, if_pos (show i < k + 1 by omega)]
      by_cases hxl : x.link = link
      · rw [if_pos hxl, ov_zero (by omega)]; omega
      · rw [if_neg hxl]
    · subst c
      rw [hi] at hx
      obtain rfl := Option.some.inj hx
      rw [if_pos hl, if_neg (Nat.lt_irrefl i), if_pos (Nat.lt_succ_self i)]
      by_cases hab2 : a < b
      · rw [ov_in (by omega) (by omega) huo.2.2.1 hab]
        split <;> split <;> omega
      · have := ov_bd (x := u) hab
        omega
    · have := h.lt hx hi c
      rw [if_neg (show ¬ i < k by omega), if_neg (show ¬ i < k + 1 by omega)]
      by_cases hxl : x.link = link
      · rw [if_pos hxl, ov_zero (by omega)]; omega
      · rw [if_neg hxl]
end Go.Proofs.Ytloicopmcagikaa

