/- Pk10, Pk11. Condition: none. -/
import Derived.Test.YtjmcijcdncgaiaaStab2
import Derived.Test.YtjmcijcdncgaiaaMgA
import Derived.Test.YtjmcijcdncgaiaaStep2
/- Stable sorting of packets in place: the code. Condition: none. Printed in part by a program. -/
namespace Go.Proofs.Ytjmcijcdncgaiaa
open Go.Vc
set_option linter.all false

def cmpI (a b : Int) : Int := if a < b then -1 else if a > b then 1 else 0
theorem cmpI_neg {a b : Int} : cmpI a b < 0 ↔ a < b := by unfold cmpI; (repeat' split) <;> omega
theorem cmpI_zero {a b : Int} : cmpI a b = 0 ↔ a = b := by unfold cmpI; (repeat' split) <;> omega
theorem cmpI_bd (a b : Int) : -1 ≤ cmpI a b ∧ cmpI a b ≤ 1 := by unfold cmpI; (repeat' split) <;> omega
def orL : List Int → Int
  | [] => 0
  | x :: l => if x ≠ 0 then x else orL l
theorem orL_drop {l : List Int} {k : Nat} (h : ∀ y ∈ l.take k, y = 0) : orL l = orL (l.drop k) := by
  induction k generalizing l with
  | zero => rfl
  | succ k ih =>
    cases l with
    | nil => rfl
    | cons x l =>
      have hx : x = 0 := h x (by simp)
      rw [orL, if_neg (by simp [hx]), List.drop_succ_cons]
      exact ih (fun y hy => h y (by simp only [List.take_succ_cons]; exact List.mem_cons_of_mem _ hy))
theorem all_zero {l : List Int} {k : Nat} {x : Int} (h : ∀ y ∈ l.take k, y = 0) (hx : l[k]? = some x) (hp : x = 0) : ∀ y ∈ l.take (k + 1), y = 0 := by
  rw [snoc_get hx]
  intro y hy
  rcases List.mem_append.1 hy with hy | hy
  · exact h y hy
  · obtain rfl := List.mem_singleton.1 hy; exact hp
theorem drop_atZ {l : List Int} {k : Nat} {x : Int} (h : l[k]? = some x) : l.drop k = x :: l.drop (k + 1) := by
 have hk := (List.getElem?_eq_some_iff.1 h).1
 rw [List.drop_eq_getElem_cons hk, (List.getElem?_eq_some_iff.1 h).2]
abbrev pkKey (p : Pk) : K2 := (p.message, p.part)
def pkCmp (a b : Pk) : Int := orL [cmpI a.message b.message, cmpI a.part b.part]
theorem pkCmp_lt {a b : Pk} : pkCmp a b < 0 ↔ ltK (pkKey a) (pkKey b) := by
  have h1 := @cmpI_neg a.message b.message
  have h2 := @cmpI_neg a.part b.part
  have h3 := @cmpI_zero a.message b.message
  have h4 := cmpI_bd a.message b.message
  have h5 := cmpI_bd a.part b.part
  show _ ↔ (a.message < b.message ∨ (a.message = b.message ∧ a.part < b.part))
  unfold pkCmp orL orL orL
  split
  · omega
  · split <;> omega
theorem rotJ {ll l2 : List Pk} {i j : Int} (h0 : 0 ≤ j) (hji : j ≤ i) (hi : i < (ll.length : Int)) (hl2 : l2 = rotL ll j.toNat i.toNat (i.toNat + 1)) : l2[j.toNat]? = ll[i.toNat]? ∧ (0 < j → l2[(j - 1).toNat]? = ll[(j - 1).toNat]?) := by
  subst hl2
  refine ⟨?_, fun hp => ?_⟩
  · rw [rotL_get (by omega) (by omega) (by omega), if_neg (by omega), if_pos (by omega)]
    congr 1; omega
  · rw [rotL_get (by omega) (by omega) (by omega), if_pos (by omega)]
theorem ins_out {l ll l2 : List Pk} {a i j : Int} (ha : 0 ≤ a) (haj : a ≤ j) (hji : j ≤ i) (hi : i < (ll.length : Int)) (hl2 : l2 = rotL ll j.toNat i.toNat (i.toNat + 1))
    (hlt : ∀ x y, j < i → ll[j.toNat]? = some x → ll[i.toNat]? = some y → ltK (pkKey y) (pkKey x)) (hL : Like pkKey l ll a.toNat i.toNat) (hS : SoOn pkKey ll a.toNat i.toNat)
    (hx : ∀ x y, a < j → l2[(j - 1).toNat]? = some x → l2[j.toNat]? = some y → ¬ pkCmp y x < 0) : Like pkKey l l2 a.toNat (i + 1).toNat ∧ SoOn pkKey l2 a.toNat (i + 1).toNat := by
  have r := rotJ (by omega) hji hi hl2
  have e1 : (i + 1).toNat = i.toNat + 1 := by omega
  have p := put_last (key := pkKey) (d := ll) (a := a.toNat) (s := j.toNat) (m := i.toNat) (by omega) (by omega) (by omega) hS (fun x y hs h1 h2 => hlt x y (by omega) h1 h2) (fun x y hs h1 h2 => by
    rw [← pkCmp_lt]
    refine hx x y (by omega) ?_ ?_
    · rw [r.2 (by omega), ← h1]; congr 1; omega
    · rw [r.1, h2])
  rw [e1, hl2]
  exact ⟨(hL.wide (Nat.le_refl _) (by omega)).trans p.1, p.2⟩
theorem ins_out2 {l ll l2 : List Pk} {a i j : Int} {x y : Pk} (ha : 0 ≤ a) (haj : a ≤ j) (hji : j ≤ i) (hi : i < (ll.length : Int)) (hl2 : l2 = rotL ll j.toNat i.toNat (i.toNat + 1))
  (hlt : ∀ x y, j < i → ll[j.toNat]? = some x → ll[i.toNat]? = some y → ltK (pkKey y) (pkKey x)) (hL : Like pkKey l ll a.toNat i.toNat) (hS : SoOn pkKey ll a.toNat i.toNat)
  (hx : l2[(j - 1).toNat]? = some x) (hy : l2[j.toNat]? = some y) (hc : ¬ pkCmp y x < 0) : Like pkKey l l2 a.toNat (i + 1).toNat ∧ SoOn pkKey l2 a.toNat (i + 1).toNat :=
 ins_out ha haj hji hi hl2 hlt hL hS fun u v _ hu hv => by
  rw [hx] at hu
  rw [hy] at hv
  obtain rfl := Option.some.inj hu
  obtain rfl := Option.some.inj hv
  exact hc
theorem ins_in {ll l2 : List Pk} {a i j : Int} {x y : Pk} (ha : 0 ≤ a) (haj : a < j) (hji : j ≤ i) (hi : i < (ll.length : Int)) (hl2 : l2 = rotL ll j.toNat i.toNat (i.toNat + 1))
    (hx : l2[(j - 1).toNat]? = some x) (hy : l2[j.toNat]? = some y) (hc : pkCmp y x < 0) :
    (l2.set j.toNat x).set (j - 1).toNat y = rotL ll (j - 1).toNat i.toNat (i.toNat + 1) ∧ ∀ x y, j - 1 < i → ll[(j - 1).toNat]? = some x → ll[i.toNat]? = some y → ltK (pkKey y) (pkKey x) := by
  have r := rotJ (by omega) hji hi hl2
  have e1 : j.toNat = (j - 1).toNat + 1 := by omega
  refine ⟨?_, fun u v _ hu hv => ?_⟩
  · rw [swp_eq hy hx, hl2]
    have q := rot_down (d := ll) (s := (j - 1).toNat) (m := i.toNat) (by omega) (by omega)
    rw [← e1] at q
    exact q
  · rw [r.2 (by omega), hu] at hx
    rw [r.1, hv] at hy
    obtain rfl := Option.some.inj hx
    obtain rfl := Option.some.inj hy
    exact pkCmp_lt.1 hc
theorem ins_none {ll : List Pk} {i : Int} (h0 : 0 ≤ i) (hi : i < (ll.length : Int)) : ll = rotL ll i.toNat i.toNat (i.toNat + 1) := (rotL_id (by omega) (by omega) (by omega) (.inl rfl)).symm

theorem cmp_isNaN_int_ok (a : Int) (h : Heap)  : Cn f_cmp_isNaN_int [.int .i64 a] h fun v h' => v = .bool false ∧ h' = h := by
 refine calls_of r_cmp_isNaN_int ?_
 refine v_seq ?_
 refine v_ops ?_
 refine s_pure (.bool false) (fun _ q => q) ?_
 refine s_nil ?_
 refine p_seqN ?_
 refine v_seq ?_
 refine v_ops ?_
 refine s_pure (.int .i64 a) (fun _ q => q) ?_
 refine s_pure (.int .i64 a) (fun _ q => q) ?_
 refine s_pure (.bool (a != a)) (fun _ q => q) ?_
 refine s_pure (.bool (a != a)) (fun _ q => q) ?_
 refine s_nil ?_
 refine p_seqN ?_
 refine v_ret ?_
 refine p_ret [.bool (a != a)] (.bool (a != a)) (fun _ q => q) rfl ?_
 have ho : false = (a != a) := by simp
 exact ⟨by first | (rw [ho]; done) | rfl, rfl⟩

theorem cmp_Compare_int_ok (a : Int) (b : Int) (h : Heap)  : Cn f_cmp_Compare_int [.int .i64 a, .int .i64 b] h fun v h' => v = .int .i64 (cmpI a b) ∧ h' = h := by
 refine calls_of r_cmp_Compare_int ?_
 refine v_seq ?_
 refine v_ops ?_
 refine s_pure (.int .i64 0) (fun _ q => q) ?_
 refine s_nil ?_
 refine p_seqN ?_
 refine v_seq ?_
 refine v_ops ?_
 refine s_pure (.int .i64 a) (fun _ q => q) ?_
 refine s_callS [.int .i64 a] (.bool false) rfl (cmp_isNaN_int_ok a _ ) ?_
 refine s_pure (.bool false) (fun _ q => q) ?_
 refine s_nil ?_
 refine p_seqN ?_
 refine v_seq ?_
 refine v_ops ?_
 refine s_pure (.int .i64 b) (fun _ q => q) ?_
 refine s_callS [.int .i64 b] (.bool false) rfl (cmp_isNaN_int_ok b _ ) ?_
 refine s_pure (.bool false) (fun _ q => q) ?_
 refine s_nil ?_
 refine p_seqN ?_
 refine v_seq ?_
 refine v_seq ?_
 refine v_ops ?_
 refine s_pure (.bool false) (fun _ q => q) ?_
 refine s_nil ?_
 refine p_seqN ?_
 refine v_condN rfl (by simp) ?_
 refine v_skip ?_
 refine p_seqN ?_
 refine v_seq ?_
 refine v_seq ?_
 refine v_ops ?_
 refine s_pure (.bool false) (fun _ q => q) ?_
 refine s_nil ?_
 refine p_seqN ?_
 refine v_condN rfl (by simp) ?_
 refine v_skip ?_
 refine p_seqN ?_
 refine v_seq ?_
 refine v_seq ?_
 refine v_ops ?_
 refine s_pure (.int .i64 a) (fun _ q => q) ?_
 refine s_pure (.int .i64 b) (fun _ q => q) ?_
 refine s_pure (.bool (decide (a < b))) (fun _ q => q) ?_
 refine s_nil ?_
 refine p_seqN ?_
 refine v_cond rfl (fun c1 => ?_) (fun c1 => ?_)
 ·
  refine v_seq ?_
  refine v_ops ?_
  refine s_pure (.int .i64 (-1)) (fun _ q => q) ?_
  refine s_nil ?_
  refine p_seqN ?_
  refine v_ret ?_
  refine p_seqR ?_
  refine p_ret [.int .i64 (-1)] (.int .i64 (-1)) (fun _ q => q) rfl ?_
  have ho : (cmpI a b) = (-1) := by unfold cmpI; first | rw [if_pos (by assumption)] | (rw [if_neg (by assumption)]; first | rw [if_pos (by assumption)] | rw [if_neg (by assumption)])
  exact ⟨by first | (rw [ho]; done) | rfl, rfl⟩
 ·
  refine v_skip ?_
  refine p_seqN ?_
  refine v_seq ?_
  refine v_seq ?_
  refine v_ops ?_
  refine s_pure (.int .i64 a) (fun _ q => q) ?_
  refine s_pure (.int .i64 b) (fun _ q => q) ?_
  refine s_pure (.bool (decide (a > b))) (fun _ q => q) ?_
  refine s_nil ?_
  refine p_seqN ?_
  refine v_cond rfl (fun c2 => ?_) (fun c2 => ?_)
  ·
   refine v_seq ?_
   refine v_ops ?_
   refine s_pure (.int .i64 1) (fun _ q => q) ?_
   refine s_nil ?_
   refine p_seqN ?_
   refine v_ret ?_
   refine p_seqR ?_
   refine p_ret [.int .i64 1] (.int .i64 1) (fun _ q => q) rfl ?_
   have ho : (cmpI a b) = 1 := by unfold cmpI; first | rw [if_pos (by assumption)] | (rw [if_neg (by assumption)]; first | rw [if_pos (by assumption)] | rw [if_neg (by assumption)])
   exact ⟨by first | (rw [ho]; done) | rfl, rfl⟩
  ·
   refine v_skip ?_
   refine p_seqN ?_
   refine v_seq ?_
   refine v_ops ?_
   refine s_pure (.int .i64 0) (fun _ q => q) ?_
   refine s_nil ?_
   refine p_seqN ?_
   refine v_ret ?_
   refine p_ret [.int .i64 0] (.int .i64 0) (fun _ q => q) rfl ?_
   have ho : (cmpI a b) = 0 := by unfold cmpI; first | rw [if_pos (by assumption)] | (rw [if_neg (by assumption)]; first | rw [if_pos (by assumption)] | rw [if_neg (by assumption)])
   exact ⟨by first | (rw [ho]; done) | rfl, rfl⟩

theorem cmp_Or_int_ok (v_l : Value) (l : List Int) (h : Heap) (s_l : Sl h v_l l) : Cn f_cmp_Or_int [v_l] h fun v h' => v = .int .i64 (orL l) ∧ Ext h h' := by
 have lt_l := s_l.lt
 have l63_l := s_l.len63
 refine calls_of r_cmp_Or_int ?_
 refine v_seq ?_
 refine v_ops ?_
 refine s_pure (.int .i64 0) (fun _ q => q) ?_
 refine s_nil ?_
 refine p_seqN ?_
 refine v_seq ?_
 refine v_ops ?_
 refine s_pure (.int .i64 0) (fun _ q => q) ?_
 refine s_nil ?_
 refine p_seqN ?_
 refine v_seq ?_
 refine v_seq ?_
 refine v_ops ?_
 refine s_pure v_l (fun _ q => q) ?_
 refine s_pure (.int .i64 (l.length : Int)) (fun _ q => s_l.lenVC q) ?_
 refine s_pure (.int .i64 0) (fun _ q => q) ?_
 refine s_nil ?_
 refine p_seqN ?_
 refine v_block ?_
 refine v_loop1 (α := Nat) (fun k => [(3, .int .i64 0), (6, v_l), (7, .int .i64 (l.length : Int)), (8, .int .i64 (k : Int))]) (fun k hh => Ext h hh ∧ k ≤ l.length ∧ ∀ y ∈ l.take k, y = 0) (fun k => l.length - k) 0 ⟨rfl, rfl, rfl, rfl⟩ ⟨(Ext.refl h), (by simp)⟩ ?_
 rintro k R2 h1 ⟨Eh, ⟨hk, hall⟩⟩
 have zEh := Eh.size
 have f4 := s_l.ext Eh
 refine v_seq ?_
 refine v_ops ?_
 refine s_pure (.bool (decide ((k : Int) < (l.length : Int)))) (fun _ q => q) ?_
 refine s_nil ?_
 refine p_seqN ?_
 refine v_seq ?_
 refine v_cond rfl (fun c5 => ?_) (fun c5 => ?_)
 ·
  refine v_skip ?_
  refine p_seqN ?_
  refine v_seq ?_
  refine v_block ?_
  refine v_seq ?_
  refine v_ops ?_
  have hk6 : k < l.length := (by first | omega | (simp; omega))
  obtain ⟨x7, hx7⟩ : ∃ x, l[k]? = some x := ⟨_, List.getElem?_eq_getElem hk6⟩
  refine s_pure (.pointer (some ⟨sblk v_l, soff v_l + k * 1, none⟩)) (fun _ q => f4.idx (k := k) rfl hk6 q) ?_
  refine s_load (.int .i64 x7) (fun _ q => f4.load1 hx7 rfl q) ?_
  refine s_pure (.int .i64 x7) (fun _ q => q) ?_
  refine s_nil ?_
  refine p_seqN ?_
  refine v_seq ?_
  refine v_ops ?_
  refine s_pure (.int .i64 x7) (fun _ q => q) ?_
  refine s_pure (.int .i64 0) (fun _ q => q) ?_
  refine s_pure (.bool (x7 != 0)) (fun _ q => q) ?_
  refine s_nil ?_
  refine p_seqN ?_
  refine v_cond rfl (fun c8 => ?_) (fun c8 => ?_)
  ·
   refine v_seq ?_
   refine v_ops ?_
   refine s_pure (.int .i64 x7) (fun _ q => q) ?_
   refine s_pure (.int .i64 x7) (fun _ q => q) ?_
   refine s_nil ?_
   refine p_seqN ?_
   refine v_ret ?_
   refine p_blkR ?_
   refine p_seqR ?_
   refine p_lpR ?_
   refine p_blkR ?_
   refine p_seqR ?_
   refine p_ret [.int .i64 x7] (.int .i64 x7) (fun _ q => q) rfl ?_
   have ho : (orL l) = x7 := by first | (rw [orL_drop hall, drop_atZ (by assumption), orL, if_pos (by assumption)]; done) | (rw [orL_drop hall, List.drop_of_length_le (by omega)]; rfl)
   exact ⟨by first | (rw [ho]; done) | rfl, Eh⟩
  ·
   have c8 := Classical.not_not.1 c8
   refine v_skip ?_
   refine p_blkN ?_
   refine p_seqN ?_
   refine v_ops ?_
   refine s_pure (.int .i64 ((k : Int) + 1)) (fun _ q => ArithVC.mk (by omega) q) ?_
   refine s_pure (.int .i64 ((k : Int) + 1)) (fun _ q => q) ?_
   refine s_nil ?_
   exact p_lpN ⟨k + 1, ⟨rfl, rfl, rfl, rfl⟩, ⟨Eh, (by exact ⟨by omega, all_zero hall (by assumption) (by assumption)⟩)⟩, by omega⟩
 ·
  refine v_exit ?_
  refine p_seqX ?_
  refine p_lpX ?_
  refine p_blkX ?_
  refine p_seqN ?_
  refine v_seq ?_
  refine v_ops ?_
  refine s_pure (.int .i64 0) (fun _ q => q) ?_
  refine s_pure (.int .i64 0) (fun _ q => q) ?_
  refine s_nil ?_
  refine p_seqN ?_
  refine v_ret ?_
  refine p_ret [.int .i64 0] (.int .i64 0) (fun _ q => q) rfl ?_
  have ho : (orL l) = 0 := by first | (rw [orL_drop hall, drop_atZ (by assumption), orL, if_pos (by assumption)]; done) | (rw [orL_drop hall, List.drop_of_length_le (by omega)]; rfl)
  exact ⟨by first | (rw [ho]; done) | rfl, Eh⟩

theorem impl_SortPackets_1_ok (p : Pk) (q : Pk) (h : Heap)  : Cn f_impl_SortPackets_1 [.agg #[.int .i64 p.message, .int .i64 p.part, .int .i64 p.parts, p.sv.v], .agg #[.int .i64 q.message, .int .i64 q.part, .int .i64 q.parts, q.sv.v]] h fun v h' => v = .int .i64 (pkCmp p q) ∧ Ext h h' := by
 refine calls_of r_impl_SortPackets_1 ?_
 refine v_seq ?_
 refine v_ops ?_
 refine s_box [.int .i64 p.message, .int .i64 p.part, .int .i64 p.parts, p.sv.v] rfl (fun h2 b1 hbb1 hzb1 eh2 bxb1 => ?_)
 have E3 := (Ext.refl h).trans eh2
 have z4 := eh2.size
 have lbb1 := bxb1.lt
 refine s_box [.int .i64 q.message, .int .i64 q.part, .int .i64 q.parts, q.sv.v] rfl (fun h6 b5 hbb5 hzb5 eh6 bxb5 => ?_)
 have E7 := E3.trans eh6
 have z8 := eh6.size
 have lbb5 := bxb5.lt
 refine s_pure (.int .i64 0) (fun _ q => q) ?_
 refine s_nil ?_
 refine p_seqN ?_
 refine v_seq ?_
 have f9 := (bxb1.ext eh6)
 refine v_draw (DrawVC.hold ([b1] ++ [b5]) ?_)
 refine d_pureT (.pointer (some ⟨b1, 0, none⟩)) (fun _ q => q) ?_
 refine d_pureT (.pointer (some ⟨b5, 0, none⟩)) (fun _ q => q) ?_
 refine d_pureT (.pointer (some ⟨b1, 1, none⟩)) (fun _ q => q) ?_
 refine d_pureT (.pointer (some ⟨b5, 1, none⟩)) (fun _ q => q) ?_
 refine d_loadO (.int .i64 p.message) (fun _ q => f9.load rfl q) ?_
 refine d_loadO (.int .i64 q.message) (fun _ q => bxb5.load rfl q) ?_
 refine d_loadT (.int .i64 p.part) (fun _ q => f9.take (by simp) rfl q) ?_
 refine d_loadT (.int .i64 q.part) (fun _ q => bxb5.take (by simp) rfl q) ?_
 refine d_eff ?_
 refine s_callS [.int .i64 p.message, .int .i64 q.message] (.int .i64 (cmpI p.message q.message)) rfl (cmp_Compare_int_ok p.message q.message _ ) ?_
 refine s_nil ⟨fun _ x hx => rfl, ?_⟩
 refine d_eff ?_
 refine s_callS [.int .i64 p.part, .int .i64 q.part] (.int .i64 (cmpI p.part q.part)) rfl (cmp_Compare_int_ok p.part q.part _ ) ?_
 refine s_nil ⟨fun hl => (by cases hl), ?_⟩
 refine d_eff ?_
 refine s_row (α := Int) [(cmpI p.message q.message), (cmpI p.part q.part)] (fun _ q => seg_i rfl (seg_i rfl (seg_nil q))) rfl (by simp [maxLen]) (fun r10 h11 eh11 zh11 s_r10 fr_r10 => ?_)
 have E12 := E7.trans eh11
 have z13 := eh11.size
 have G14 := eh11
 have lt_r10 := s_r10.lt
 refine s_nil ⟨fun hl => (by cases hl), ?_⟩
 refine d_eff ?_
 refine s_call [r10] rfl (cmp_Or_int_ok r10 [(cmpI p.message q.message), (cmpI p.part q.part)] _ s_r10.toSl) ?_
 rintro _ h15 ⟨rfl, eh15⟩
 have E16 := E12.trans eh15
 have z17 := eh15.size
 have G18 := G14.trans eh15
 refine s_nil ⟨fun hl => (by cases hl), ?_⟩
 refine d_pureT (.int .i64 (orL [(cmpI p.message q.message), (cmpI p.part q.part)])) (fun _ q => q) ?_
 refine d_done ?_
 refine p_seqN ?_
 refine v_ret ?_
 refine p_ret [.int .i64 (orL [(cmpI p.message q.message), (cmpI p.part q.part)])] (.int .i64 (orL [(cmpI p.message q.message), (cmpI p.part q.part)])) (fun _ q => q) rfl ?_
 have ho : (pkCmp p q) = (orL [(cmpI p.message q.message), (cmpI p.part q.part)]) := by rfl
 exact ⟨by first | (rw [ho]; done) | rfl, E16⟩

theorem slices_swapRangeCmpFunc_impl_Packet_ok (v_l : Value) (l : List Pk) (a : Int) (b : Int) (n : Int) (h : Heap) (s_l : SlO h v_l l) (h0 : 0 ≤ a) (h1 : a + n ≤ b) (h2 : b + n ≤ (l.length : Int)) (hn : 0 ≤ n) (bl : l.length ≤ 1000000) : Cn f_slices_swapRangeCmpFunc_impl_Packet [v_l, .int .i64 a, .int .i64 b, .int .i64 n, .func (.func 66) #[] #[]] h fun v h' => v = .tuple #[] ∧ SlO h' v_l (swR l a b n.toNat) ∧ Mod (blks v_l) h h' := by
 have lt_l := s_l.lt
 have l63_l := s_l.len63
 refine calls_of r_slices_swapRangeCmpFunc_impl_Packet ?_
 refine v_seq ?_
 refine v_ops ?_
 refine s_pure (.int .i64 0) (fun _ q => q) ?_
 refine s_nil ?_
 refine p_seqN ?_
 refine v_block ?_
 refine v_loop2 (α := Nat) (β := List Pk) (fun k ll => [(0, v_l), (1, .int .i64 a), (2, .int .i64 b), (3, .int .i64 n), (10, .int .i64 (k : Int))]) (fun k ll hh => Mod (blks v_l) h hh ∧ SlO hh v_l ll ∧ (k : Int) ≤ n ∧ ll = swR l a b k) (fun k ll => n.toNat - k) 0 l ⟨rfl, rfl, rfl, rfl, rfl⟩ ⟨(Mod.refl (blks v_l) h), s_l, (by exact ⟨by omega, rfl⟩)⟩ ?_
 rintro k ll R2 h1 ⟨Eh, s_l, ⟨hk, hll⟩⟩
 have zEh := Eh.size
 have lt_l := s_l.lt
 have hlen : ll.length = l.length := by rw [hll]; exact swR_len k
 refine v_seq ?_
 refine v_seq ?_
 refine v_ops ?_
 refine s_pure (.int .i64 (k : Int)) (fun _ q => q) ?_
 refine s_pure (.int .i64 n) (fun _ q => q) ?_
 refine s_pure (.bool (decide ((k : Int) < n))) (fun _ q => q) ?_
 refine s_nil ?_
 refine p_seqN ?_
 refine v_cond rfl (fun c4 => ?_) (fun c4 => ?_)
 ·
  refine v_skip ?_
  refine p_seqN ?_
  refine v_seq ?_
  refine v_block ?_
  refine v_drawF ?_
  refine d_pureT v_l (fun _ q => q) ?_
  refine d_pureT (.int .i64 a) (fun _ q => q) ?_
  refine d_pureT (.int .i64 (k : Int)) (fun _ q => q) ?_
  refine d_pureT (.int .i64 (a + (k : Int))) (fun _ q => ArithVC.mk (by omega) q) ?_
  refine d_pureT v_l (fun _ q => q) ?_
  refine d_pureT (.int .i64 b) (fun _ q => q) ?_
  refine d_pureT (.int .i64 (k : Int)) (fun _ q => q) ?_
  refine d_pureT (.int .i64 (b + (k : Int))) (fun _ q => ArithVC.mk (by omega) q) ?_
  refine d_pureT v_l (fun _ q => q) ?_
  refine d_pureT (.int .i64 b) (fun _ q => q) ?_
  refine d_pureT (.int .i64 (k : Int)) (fun _ q => q) ?_
  refine d_pureT (.int .i64 (b + (k : Int))) (fun _ q => ArithVC.mk (by omega) q) ?_
  have hk5 : ((b + (k : Int))).toNat < ll.length := (by first | omega | (simp; omega))
  obtain ⟨x6, hx6⟩ : ∃ x, ll[((b + (k : Int))).toNat]? = some x := ⟨_, List.getElem?_eq_getElem hk5⟩
  refine d_pureT (.pointer (some ⟨sblk v_l, soff v_l + (((b + (k : Int))).toNat) * 4, none⟩)) (fun _ q => s_l.idx (k := ((b + (k : Int))).toNat) (by omega) hk5 q) ?_
  refine d_pureT v_l (fun _ q => q) ?_
  refine d_pureT (.int .i64 a) (fun _ q => q) ?_
  refine d_pureT (.int .i64 (k : Int)) (fun _ q => q) ?_
  refine d_pureT (.int .i64 (a + (k : Int))) (fun _ q => ArithVC.mk (by omega) q) ?_
  have hk7 : ((a + (k : Int))).toNat < ll.length := (by first | omega | (simp; omega))
  obtain ⟨x8, hx8⟩ : ∃ x, ll[((a + (k : Int))).toNat]? = some x := ⟨_, List.getElem?_eq_getElem hk7⟩
  refine d_pureT (.pointer (some ⟨sblk v_l, soff v_l + (((a + (k : Int))).toNat) * 4, none⟩)) (fun _ q => s_l.idx (k := ((a + (k : Int))).toNat) (by omega) hk7 q) ?_
  refine d_loadO (.agg #[.int .i64 x6.message, .int .i64 x6.part, .int .i64 x6.parts, x6.sv.v]) (fun _ q => s_l.loadN hx6 rfl q) ?_
  refine d_loadO (.agg #[.int .i64 x8.message, .int .i64 x8.part, .int .i64 x8.parts, x8.sv.v]) (fun _ q => s_l.loadN hx8 rfl q) ?_
  refine d_pureT (.pointer (some ⟨sblk v_l, soff v_l + (((a + (k : Int))).toNat) * 4, none⟩)) (fun _ q => s_l.idx (k := ((a + (k : Int))).toNat) (by omega) hk7 q) ?_
  refine d_eff ?_
  refine s_stSl (k := ((a + (k : Int))).toNat) (j := 0) x6 (.agg #[.int .i64 x6.message, .int .i64 x6.part, .int .i64 x6.parts, x6.sv.v]) [.int .i64 x6.message, .int .i64 x6.part, .int .i64 x6.parts, x6.sv.v] s_l rfl rfl rfl rfl rfl hx8 (Nat.le_of_ble_eq_true rfl) rfl (all_cons rfl (all_cons rfl (all_cons rfl (all_cons rfl all_nil)))) (fun h9 mh9 sh9 s10 => ?_)
  have E11 := Eh.new mh9 (fun b hb => Or.inl hb)
  refine s_nil ⟨fun hl => (by cases hl), ?_⟩
  have hk12 : ((b + (k : Int))).toNat < (ll.set (((a + (k : Int))).toNat) x6).length := (by first | omega | (simp; omega))
  obtain ⟨x13, hx13⟩ : ∃ x, (ll.set (((a + (k : Int))).toNat) x6)[((b + (k : Int))).toNat]? = some x := ⟨_, List.getElem?_eq_getElem hk12⟩
  refine d_pureT (.pointer (some ⟨sblk v_l, soff v_l + (((b + (k : Int))).toNat) * 4, none⟩)) (fun _ q => s10.idx (k := ((b + (k : Int))).toNat) (by omega) hk12 q) ?_
  refine d_eff ?_
  refine s_stSl (k := ((b + (k : Int))).toNat) (j := 0) x8 (.agg #[.int .i64 x8.message, .int .i64 x8.part, .int .i64 x8.parts, x8.sv.v]) [.int .i64 x8.message, .int .i64 x8.part, .int .i64 x8.parts, x8.sv.v] s10 rfl rfl rfl rfl rfl hx13 (Nat.le_of_ble_eq_true rfl) rfl (all_cons rfl (all_cons rfl (all_cons rfl (all_cons rfl all_nil)))) (fun h14 mh14 sh14 s15 => ?_)
  have E16 := E11.new mh14 (fun b hb => Or.inl hb)
  refine s_nil ⟨fun hl => (by cases hl), ?_⟩
  refine d_done ?_
  refine p_blkN ?_
  refine p_seqN ?_
  refine v_ops ?_
  refine s_pure (.int .i64 (k : Int)) (fun _ q => q) ?_
  refine s_pure (.int .i64 ((k : Int) + 1)) (fun _ q => ArithVC.mk (by omega) q) ?_
  refine s_pure (.int .i64 ((k : Int) + 1)) (fun _ q => q) ?_
  refine s_nil ?_
  exact p_lpN ⟨k + 1, ((ll.set (((a + (k : Int))).toNat) x6).set (((b + (k : Int))).toNat) x8), ⟨rfl, rfl, rfl, rfl, rfl⟩, ⟨E16, (sl_eq s15 rfl), (by exact ⟨by omega, by rw [swR, ← hll]; exact swp_eq (by assumption) (by assumption)⟩)⟩, by omega⟩
 ·
  refine v_exit ?_
  refine p_seqX ?_
  refine p_lpX ?_
  refine p_blkX ?_
  refine p_end [] (.tuple #[]) (fun _ q => q) rfl ?_
  have ho : ll = swR l a b n.toNat := by rw [hll]; congr 1; omega
  exact ⟨rfl, ho ▸ s_l, Eh⟩

theorem slices_rotateCmpFunc_impl_Packet_ok (v_l : Value) (l : List Pk) (a : Int) (m : Int) (b : Int) (h : Heap) (s_l : SlO h v_l l) (h0 : 0 ≤ a) (h1 : a < m) (h2 : m < b) (h3 : b ≤ (l.length : Int)) (bl : l.length ≤ 1000000) : Cn f_slices_rotateCmpFunc_impl_Packet [v_l, .int .i64 a, .int .i64 m, .int .i64 b, .func (.func 66) #[] #[]] h fun v h' => v = .tuple #[] ∧ SlO h' v_l (rotL l a.toNat m.toNat b.toNat) ∧ Mod (blks v_l) h h' := by
 have lt_l := s_l.lt
 have l63_l := s_l.len63
 refine calls_of r_slices_rotateCmpFunc_impl_Packet ?_
 refine v_seq ?_
 refine v_ops ?_
 refine s_pure (.int .i64 m) (fun _ q => q) ?_
 refine s_pure (.int .i64 a) (fun _ q => q) ?_
 refine s_pure (.int .i64 (m - a)) (fun _ q => ArithVC.mk (by omega) q) ?_
 refine s_pure (.int .i64 (m - a)) (fun _ q => q) ?_
 refine s_nil ?_
 refine p_seqN ?_
 refine v_seq ?_
 refine v_ops ?_
 refine s_pure (.int .i64 b) (fun _ q => q) ?_
 refine s_pure (.int .i64 m) (fun _ q => q) ?_
 refine s_pure (.int .i64 (b - m)) (fun _ q => ArithVC.mk (by omega) q) ?_
 refine s_pure (.int .i64 (b - m)) (fun _ q => q) ?_
 refine s_nil ?_
 refine p_seqN ?_
 refine v_seq ?_
 refine v_block ?_
 refine v_loop3 (α := Int) (β := Int) (γ := List Pk) (fun i j ll => [(0, v_l), (2, .int .i64 m), (4, .func (.func 66) #[] #[]), (10, .int .i64 i), (11, .int .i64 j)]) (fun i j ll hh => Mod (blks v_l) h hh ∧ SlO hh v_l ll ∧ 0 < i ∧ 0 < j ∧ a ≤ m - i ∧ m + j ≤ b ∧ ll.length = l.length ∧ rotL ll (m - i).toNat m.toNat (m + j).toNat = rotL l a.toNat m.toNat b.toNat) (fun i j ll => (i + j).toNat) (m - a) (b - m) l ⟨rfl, rfl, rfl, rfl, rfl⟩ ⟨(Mod.refl (blks v_l) h), s_l, (by exact ⟨by omega, by omega, by omega, by omega, rfl, by rw [show m - (m - a) = a by omega, show m + (b - m) = b by omega]⟩)⟩ ?_
 rintro i j ll R2 h1 ⟨Eh, s_l, ⟨hi, hj, hai, hbj, hlen, hr⟩⟩
 have zEh := Eh.size
 have lt_l := s_l.lt
 refine v_seq ?_
 refine v_seq ?_
 refine v_ops ?_
 refine s_pure (.int .i64 i) (fun _ q => q) ?_
 refine s_pure (.int .i64 j) (fun _ q => q) ?_
 refine s_pure (.bool (i != j)) (fun _ q => q) ?_
 refine s_nil ?_
 refine p_seqN ?_
 refine v_cond rfl (fun c4 => ?_) (fun c4 => ?_)
 ·
  refine v_skip ?_
  refine p_seqN ?_
  refine v_block ?_
  refine v_seq ?_
  refine v_ops ?_
  refine s_pure (.int .i64 i) (fun _ q => q) ?_
  refine s_pure (.int .i64 j) (fun _ q => q) ?_
  refine s_pure (.bool (decide (i > j))) (fun _ q => q) ?_
  refine s_nil ?_
  refine p_seqN ?_
  refine v_cond rfl (fun c5 => ?_) (fun c5 => ?_)
  ·
   refine v_seq ?_
   refine v_ops ?_
   refine s_pure v_l (fun _ q => q) ?_
   refine s_pure (.int .i64 m) (fun _ q => q) ?_
   refine s_pure (.int .i64 i) (fun _ q => q) ?_
   refine s_pure (.int .i64 (m - i)) (fun _ q => ArithVC.mk (by omega) q) ?_
   refine s_pure (.int .i64 m) (fun _ q => q) ?_
   refine s_pure (.int .i64 j) (fun _ q => q) ?_
   refine s_pure (.func (.func 66) #[] #[]) (fun _ q => q) ?_
   refine s_call [v_l, .int .i64 (m - i), .int .i64 m, .int .i64 j, .func (.func 66) #[] #[]] rfl (slices_swapRangeCmpFunc_impl_Packet_ok v_l ll (m - i) m j _ s_l (by omega) (by omega) (by omega) (by omega) (by omega)) ?_
   rintro _ h6 ⟨rfl, s7, mh6⟩
   have zh6 := mh6.size
   have E8 := Eh.new mh6 (fun b hb => Or.inl hb)
   refine s_nil ?_
   refine p_seqN ?_
   refine v_ops ?_
   refine s_pure (.int .i64 i) (fun _ q => q) ?_
   refine s_pure (.int .i64 j) (fun _ q => q) ?_
   refine s_pure (.int .i64 (i - j)) (fun _ q => ArithVC.mk (by omega) q) ?_
   refine s_pure (.int .i64 (i - j)) (fun _ q => q) ?_
   refine s_nil ?_
   refine p_blkN ?_
   exact p_lpN ⟨(i - j), j, (swR ll (m - i) m j.toNat), ⟨rfl, rfl, rfl, rfl, rfl⟩, ⟨E8, (sl_eq s7 rfl), (by first | exact ⟨by omega, by omega, by omega, by omega, by rw [swR_len]; exact hlen, (rot_left (by omega) (by omega) (by omega) (by omega)).trans hr⟩ | exact ⟨by omega, by omega, by omega, by omega, by rw [swR_len]; exact hlen, (rot_right (by omega) (by omega) (by omega) (by omega)).trans hr⟩)⟩, by omega⟩
  ·
   refine v_seq ?_
   refine v_ops ?_
   refine s_pure v_l (fun _ q => q) ?_
   refine s_pure (.int .i64 m) (fun _ q => q) ?_
   refine s_pure (.int .i64 i) (fun _ q => q) ?_
   refine s_pure (.int .i64 (m - i)) (fun _ q => ArithVC.mk (by omega) q) ?_
   refine s_pure (.int .i64 m) (fun _ q => q) ?_
   refine s_pure (.int .i64 j) (fun _ q => q) ?_
   refine s_pure (.int .i64 (m + j)) (fun _ q => ArithVC.mk (by omega) q) ?_
   refine s_pure (.int .i64 i) (fun _ q => q) ?_
   refine s_pure (.int .i64 ((m + j) - i)) (fun _ q => ArithVC.mk (by omega) q) ?_
   refine s_pure (.int .i64 i) (fun _ q => q) ?_
   refine s_pure (.func (.func 66) #[] #[]) (fun _ q => q) ?_
   refine s_call [v_l, .int .i64 (m - i), .int .i64 ((m + j) - i), .int .i64 i, .func (.func 66) #[] #[]] rfl (slices_swapRangeCmpFunc_impl_Packet_ok v_l ll (m - i) ((m + j) - i) i _ s_l (by omega) (by omega) (by omega) (by omega) (by omega)) ?_
   rintro _ h9 ⟨rfl, s10, mh9⟩
   have zh9 := mh9.size
   have E11 := Eh.new mh9 (fun b hb => Or.inl hb)
   refine s_nil ?_
   refine p_seqN ?_
   refine v_ops ?_
   refine s_pure (.int .i64 j) (fun _ q => q) ?_
   refine s_pure (.int .i64 i) (fun _ q => q) ?_
   refine s_pure (.int .i64 (j - i)) (fun _ q => ArithVC.mk (by omega) q) ?_
   refine s_pure (.int .i64 (j - i)) (fun _ q => q) ?_
   refine s_nil ?_
   refine p_blkN ?_
   exact p_lpN ⟨i, (j - i), (swR ll (m - i) ((m + j) - i) i.toNat), ⟨rfl, rfl, rfl, rfl, rfl⟩, ⟨E11, (sl_eq s10 rfl), (by first | exact ⟨by omega, by omega, by omega, by omega, by rw [swR_len]; exact hlen, (rot_left (by omega) (by omega) (by omega) (by omega)).trans hr⟩ | exact ⟨by omega, by omega, by omega, by omega, by rw [swR_len]; exact hlen, (rot_right (by omega) (by omega) (by omega) (by omega)).trans hr⟩)⟩, by omega⟩
 ·
  have c4 := Classical.not_not.1 c4
  refine v_exit ?_
  refine p_seqX ?_
  refine p_lpX ?_
  refine p_blkX ?_
  refine p_seqN ?_
  refine v_ops ?_
  refine s_pure v_l (fun _ q => q) ?_
  refine s_pure (.int .i64 m) (fun _ q => q) ?_
  refine s_pure (.int .i64 i) (fun _ q => q) ?_
  refine s_pure (.int .i64 (m - i)) (fun _ q => ArithVC.mk (by omega) q) ?_
  refine s_pure (.int .i64 m) (fun _ q => q) ?_
  refine s_pure (.int .i64 i) (fun _ q => q) ?_
  refine s_pure (.func (.func 66) #[] #[]) (fun _ q => q) ?_
  refine s_call [v_l, .int .i64 (m - i), .int .i64 m, .int .i64 i, .func (.func 66) #[] #[]] rfl (slices_swapRangeCmpFunc_impl_Packet_ok v_l ll (m - i) m i _ s_l (by omega) (by omega) (by omega) (by omega) (by omega)) ?_
  rintro _ h12 ⟨rfl, s13, mh12⟩
  have zh12 := mh12.size
  have E14 := Eh.new mh12 (fun b hb => Or.inl hb)
  refine s_nil ?_
  refine p_end [] (.tuple #[]) (fun _ q => q) rfl ?_
  have ho : (swR ll (m - i) m i.toNat) = rotL l a.toNat m.toNat b.toNat := by (have hij : i = j := by omega); subst hij; exact (rot_end (by omega) (by omega) (by omega)).trans hr
  exact ⟨rfl, ho ▸ s13, E14⟩

set_option maxRecDepth 10000 in
set_option maxHeartbeats 4000000 in
theorem slices_insertionSortCmpFunc_impl_Packet_ok (v_l : Value) (l : List Pk) (a : Int) (b : Int) (h : Heap) (s_l : SlO h v_l l) (h0 : 0 ≤ a) (h1 : a ≤ b) (h2 : b ≤ (l.length : Int)) (bl : l.length ≤ 1000000) : Cn f_slices_insertionSortCmpFunc_impl_Packet [v_l, .int .i64 a, .int .i64 b, .func (.func 66) #[] #[]] h fun v h' => v = .tuple #[] ∧ ∃ l_ : List Pk, SlO h' v_l l_ ∧ Mod (blks v_l) h h' ∧ (Like pkKey l l_ a.toNat b.toNat ∧ SoOn pkKey l_ a.toNat b.toNat) := by
 have lt_l := s_l.lt
 have l63_l := s_l.len63
 refine calls_of r_slices_insertionSortCmpFunc_impl_Packet ?_
 refine v_seq ?_
 refine v_ops ?_
 refine s_pure (.int .i64 a) (fun _ q => q) ?_
 refine s_pure (.int .i64 (a + 1)) (fun _ q => ArithVC.mk (by omega) q) ?_
 refine s_pure (.int .i64 (a + 1)) (fun _ q => q) ?_
 refine s_nil ?_
 refine p_seqN ?_
 refine v_block ?_
 refine v_loop2 (α := Int) (β := List Pk) (fun i ll => [(0, v_l), (1, .int .i64 a), (2, .int .i64 b), (3, .func (.func 66) #[] #[]), (8, .int .i64 i)]) (fun i ll hh => Mod (blks v_l) h hh ∧ SlO hh v_l ll ∧ a + 1 ≤ i ∧ (i ≤ b ∨ (i = a + 1 ∧ ll = l)) ∧ Like pkKey l ll a.toNat i.toNat ∧ SoOn pkKey ll a.toNat i.toNat) (fun i ll => (b + 1 - i).toNat) (a + 1) l ⟨rfl, rfl, rfl, rfl, rfl⟩ ⟨(Mod.refl (blks v_l) h), s_l, (by exact ⟨by omega, .inr ⟨rfl, rfl⟩, Like.refl _ _ _, SoOn.one (by omega)⟩)⟩ ?_
 rintro i ll R2 h1 ⟨Eh, s_l, ⟨hi, hib, hL, hS⟩⟩
 have zEh := Eh.size
 have lt_l := s_l.lt
 have hlen := hL.len
 refine v_seq ?_
 refine v_seq ?_
 refine v_ops ?_
 refine s_pure (.int .i64 i) (fun _ q => q) ?_
 refine s_pure (.int .i64 b) (fun _ q => q) ?_
 refine s_pure (.bool (decide (i < b))) (fun _ q => q) ?_
 refine s_nil ?_
 refine p_seqN ?_
 refine v_cond rfl (fun c4 => ?_) (fun c4 => ?_)
 ·
  refine v_skip ?_
  refine p_seqN ?_
  refine v_seq ?_
  refine v_block ?_
  refine v_seq ?_
  refine v_ops ?_
  refine s_pure (.int .i64 i) (fun _ q => q) ?_
  refine s_pure (.int .i64 i) (fun _ q => q) ?_
  refine s_nil ?_
  refine p_seqN ?_
  refine v_block ?_
  refine v_loop2 (α := Int) (β := List Pk) (fun j l2 => [(0, v_l), (1, .int .i64 a), (2, .int .i64 b), (3, .func (.func 66) #[] #[]), (8, .int .i64 i), (9, .int .i64 j)]) (fun j l2 hh => Mod (blks v_l) h hh ∧ SlO hh v_l l2 ∧ a ≤ j ∧ j ≤ i ∧ l2 = rotL ll j.toNat i.toNat (i.toNat + 1) ∧ (∀ x y, j < i → ll[j.toNat]? = some x → ll[i.toNat]? = some y → ltK (pkKey y) (pkKey x))) (fun j l2 => j.toNat) i ll ⟨rfl, rfl, rfl, rfl, rfl, rfl⟩ ⟨Eh, s_l, (by exact ⟨by omega, by omega, ins_none (by omega) (by omega), fun x y hc => by omega⟩)⟩ ?_
  rintro j l2 R6 h5 ⟨Eh, s_l, ⟨hja, hji, hl2, hlt⟩⟩
  have zEh := Eh.size
  have lt_l := s_l.lt
  have hlen2 : l2.length = ll.length := by rw [hl2]; exact rotL_len (by omega) (by omega) (by omega)
  refine v_seq ?_
  refine v_seq ?_
  refine v_drawF ?_
  refine d_pureT (.int .i64 j) (fun _ q => q) ?_
  refine d_pureT (.int .i64 a) (fun _ q => q) ?_
  refine d_pureT (.bool (decide (j > a))) (fun _ q => q) ?_
  refine d_pureT (.bool (decide (j > a))) (fun _ q => q) ?_
  refine d_splitT rfl (fun c8 => ?_) (fun c8 => ?_)
  ·
   refine d_runT rfl ?_
   refine d_pureT (.func (.func 66) #[] #[]) (fun _ q => q) ?_
   refine d_runT rfl ?_
   refine d_pureT v_l (fun _ q => q) ?_
   refine d_runT rfl ?_
   refine d_pureT (.int .i64 j) (fun _ q => q) ?_
   refine d_runT rfl ?_
   have hk9 : (j).toNat < l2.length := (by first | omega | (simp; omega))
   obtain ⟨x10, hx10⟩ : ∃ x, l2[(j).toNat]? = some x := ⟨_, List.getElem?_eq_getElem hk9⟩
   refine d_pureT (.pointer (some ⟨sblk v_l, soff v_l + ((j).toNat) * 4, none⟩)) (fun _ q => s_l.idx (k := (j).toNat) (by omega) hk9 q) ?_
   refine d_runT rfl ?_
   refine d_pureT v_l (fun _ q => q) ?_
   refine d_runT rfl ?_
   refine d_pureT (.int .i64 j) (fun _ q => q) ?_
   refine d_runT rfl ?_
   refine d_pureT (.int .i64 (j - 1)) (fun _ q => ArithVC.mk (by omega) q) ?_
   refine d_runT rfl ?_
   have hk11 : ((j - 1)).toNat < l2.length := (by first | omega | (simp; omega))
   obtain ⟨x12, hx12⟩ : ∃ x, l2[((j - 1)).toNat]? = some x := ⟨_, List.getElem?_eq_getElem hk11⟩
   refine d_pureT (.pointer (some ⟨sblk v_l, soff v_l + (((j - 1)).toNat) * 4, none⟩)) (fun _ q => s_l.idx (k := ((j - 1)).toNat) (by omega) hk11 q) ?_
   refine d_runO rfl ?_
   refine d_loadO (.agg #[.int .i64 x10.message, .int .i64 x10.part, .int .i64 x10.parts, x10.sv.v]) (fun _ q => s_l.loadN hx10 rfl q) ?_
   refine d_runO rfl ?_
   refine d_loadO (.agg #[.int .i64 x12.message, .int .i64 x12.part, .int .i64 x12.parts, x12.sv.v]) (fun _ q => s_l.loadN hx12 rfl q) ?_
   refine d_runO rfl ?_
   refine d_eff ?_
   refine s_callv [.agg #[.int .i64 x10.message, .int .i64 x10.part, .int .i64 x10.parts, x10.sv.v], .agg #[.int .i64 x12.message, .int .i64 x12.part, .int .i64 x12.parts, x12.sv.v]] rfl rfl (impl_SortPackets_1_ok x10 x12 _) ?_
   rintro _ h13 ⟨rfl, eh13⟩
   have E14 := Eh.trans (Mod.of_ext eh13 _)
   have z15 := eh13.size
   have G16 := eh13
   refine s_nil ⟨fun hl => (by cases hl), ?_⟩
   refine d_runT rfl ?_
   refine d_pureT (.bool (decide ((pkCmp x10 x12) < 0))) (fun _ q => q) ?_
   refine d_pureT (.bool (decide ((pkCmp x10 x12) < 0))) (fun _ q => q) ?_
   refine d_done ?_
   refine p_seqN ?_
   refine v_cond rfl (fun c17 => ?_) (fun c17 => ?_)
   ·
    refine v_skip ?_
    refine p_seqN ?_
    refine v_seq ?_
    refine v_block ?_
    refine v_drawF ?_
    refine d_pureT v_l (fun _ q => q) ?_
    refine d_pureT (.int .i64 j) (fun _ q => q) ?_
    refine d_pureT v_l (fun _ q => q) ?_
    refine d_pureT (.int .i64 j) (fun _ q => q) ?_
    refine d_pureT (.int .i64 (j - 1)) (fun _ q => ArithVC.mk (by omega) q) ?_
    refine d_pureT v_l (fun _ q => q) ?_
    refine d_pureT (.int .i64 j) (fun _ q => q) ?_
    refine d_pureT (.int .i64 (j - 1)) (fun _ q => ArithVC.mk (by omega) q) ?_
    have f18 := (s_l.ext eh13)
    refine d_pureT (.pointer (some ⟨sblk v_l, soff v_l + (((j - 1)).toNat) * 4, none⟩)) (fun _ q => f18.idx (k := ((j - 1)).toNat) (by omega) hk11 q) ?_
    refine d_pureT v_l (fun _ q => q) ?_
    refine d_pureT (.int .i64 j) (fun _ q => q) ?_
    refine d_pureT (.pointer (some ⟨sblk v_l, soff v_l + ((j).toNat) * 4, none⟩)) (fun _ q => f18.idx (k := (j).toNat) (by omega) hk9 q) ?_
    refine d_loadO (.agg #[.int .i64 x12.message, .int .i64 x12.part, .int .i64 x12.parts, x12.sv.v]) (fun _ q => f18.loadN hx12 rfl q) ?_
    refine d_loadO (.agg #[.int .i64 x10.message, .int .i64 x10.part, .int .i64 x10.parts, x10.sv.v]) (fun _ q => f18.loadN hx10 rfl q) ?_
    refine d_pureT (.pointer (some ⟨sblk v_l, soff v_l + ((j).toNat) * 4, none⟩)) (fun _ q => f18.idx (k := (j).toNat) (by omega) hk9 q) ?_
    refine d_eff ?_
    refine s_stSl (k := (j).toNat) (j := 0) x12 (.agg #[.int .i64 x12.message, .int .i64 x12.part, .int .i64 x12.parts, x12.sv.v]) [.int .i64 x12.message, .int .i64 x12.part, .int .i64 x12.parts, x12.sv.v] f18 rfl rfl rfl rfl rfl hx10 (Nat.le_of_ble_eq_true rfl) rfl (all_cons rfl (all_cons rfl (all_cons rfl (all_cons rfl all_nil)))) (fun h19 mh19 sh19 s20 => ?_)
    have E21 := E14.new mh19 (fun b hb => Or.inl hb)
    refine s_nil ⟨fun hl => (by cases hl), ?_⟩
    have hk22 : ((j - 1)).toNat < (l2.set ((j).toNat) x12).length := (by first | omega | (simp; omega))
    obtain ⟨x23, hx23⟩ : ∃ x, (l2.set ((j).toNat) x12)[((j - 1)).toNat]? = some x := ⟨_, List.getElem?_eq_getElem hk22⟩
    refine d_pureT (.pointer (some ⟨sblk v_l, soff v_l + (((j - 1)).toNat) * 4, none⟩)) (fun _ q => s20.idx (k := ((j - 1)).toNat) (by omega) hk22 q) ?_
    refine d_eff ?_
    refine s_stSl (k := ((j - 1)).toNat) (j := 0) x10 (.agg #[.int .i64 x10.message, .int .i64 x10.part, .int .i64 x10.parts, x10.sv.v]) [.int .i64 x10.message, .int .i64 x10.part, .int .i64 x10.parts, x10.sv.v] s20 rfl rfl rfl rfl rfl hx23 (Nat.le_of_ble_eq_true rfl) rfl (all_cons rfl (all_cons rfl (all_cons rfl (all_cons rfl all_nil)))) (fun h24 mh24 sh24 s25 => ?_)
    have E26 := E21.new mh24 (fun b hb => Or.inl hb)
    refine s_nil ⟨fun hl => (by cases hl), ?_⟩
    refine d_done ?_
    refine p_blkN ?_
    refine p_seqN ?_
    refine v_ops ?_
    refine s_pure (.int .i64 j) (fun _ q => q) ?_
    refine s_pure (.int .i64 (j - 1)) (fun _ q => ArithVC.mk (by omega) q) ?_
    refine s_pure (.int .i64 (j - 1)) (fun _ q => q) ?_
    refine s_nil ?_
    exact p_lpN ⟨(j - 1), ((l2.set ((j).toNat) x12).set (((j - 1)).toNat) x10), ⟨rfl, rfl, rfl, rfl, rfl, rfl⟩, ⟨E26, (sl_eq s25 rfl), (by (have hin := ins_in h0 (by omega) hji (by omega) hl2 (by assumption) (by assumption) (by assumption)); exact ⟨by omega, by omega, hin.1, hin.2⟩)⟩, by omega⟩
   ·
    refine v_exit ?_
    refine p_seqX ?_
    refine p_lpX ?_
    refine p_blkX ?_
    refine p_blkN ?_
    refine p_seqN ?_
    refine v_ops ?_
    refine s_pure (.int .i64 i) (fun _ q => q) ?_
    refine s_pure (.int .i64 (i + 1)) (fun _ q => ArithVC.mk (by omega) q) ?_
    refine s_pure (.int .i64 (i + 1)) (fun _ q => q) ?_
    refine s_nil ?_
    have f27 := (s_l.ext eh13)
    exact p_lpN ⟨(i + 1), l2, ⟨rfl, rfl, rfl, rfl, rfl⟩, ⟨E14, (sl_eq f27 rfl), (by first | exact ⟨by omega, .inl (by omega), ins_out h0 hja hji (by omega) hl2 hlt hL hS (fun x y hc _ _ => by omega)⟩ | exact ⟨by omega, .inl (by omega), ins_out2 h0 hja hji (by omega) hl2 hlt hL hS (by assumption) (by assumption) (by assumption)⟩)⟩, by omega⟩
  ·
   refine d_passT rfl ?_
   refine d_passT rfl ?_
   refine d_passT rfl ?_
   refine d_passT rfl ?_
   refine d_passT rfl ?_
   refine d_passT rfl ?_
   refine d_passT rfl ?_
   refine d_passT rfl ?_
   refine d_passO rfl ?_
   refine d_passO rfl ?_
   refine d_passO rfl ?_
   refine d_passT rfl ?_
   refine d_pureT (.bool false) (fun _ q => q) ?_
   refine d_done ?_
   refine p_seqN ?_
   refine v_condN rfl (by simp) ?_
   refine v_exit ?_
   refine p_seqX ?_
   refine p_lpX ?_
   refine p_blkX ?_
   refine p_blkN ?_
   refine p_seqN ?_
   refine v_ops ?_
   refine s_pure (.int .i64 i) (fun _ q => q) ?_
   refine s_pure (.int .i64 (i + 1)) (fun _ q => ArithVC.mk (by omega) q) ?_
   refine s_pure (.int .i64 (i + 1)) (fun _ q => q) ?_
   refine s_nil ?_
   exact p_lpN ⟨(i + 1), l2, ⟨rfl, rfl, rfl, rfl, rfl⟩, ⟨Eh, (sl_eq s_l rfl), (by first | exact ⟨by omega, .inl (by omega), ins_out h0 hja hji (by omega) hl2 hlt hL hS (fun x y hc _ _ => by omega)⟩ | exact ⟨by omega, .inl (by omega), ins_out2 h0 hja hji (by omega) hl2 hlt hL hS (by assumption) (by assumption) (by assumption)⟩)⟩, by omega⟩
 ·
  refine v_exit ?_
  refine p_seqX ?_
  refine p_lpX ?_
  refine p_blkX ?_
  refine p_end [] (.tuple #[]) (fun _ q => q) rfl ?_
  exact ⟨rfl, ll, s_l, Eh, by (rcases hib with hib | ⟨h5, rfl⟩; (have hib2 : i.toNat = b.toNat := by omega); rw [hib2] at hL hS; exact ⟨hL, hS⟩; exact ⟨Like.refl _ _ _, SoOn.one (by omega)⟩)⟩

end Go.Proofs.Ytjmcijcdncgaiaa


/- Stable merging of packets in place: the code. Condition: none. Printed in part by a program. -/
namespace Go.Proofs.Ytjmcijcdncgaiaa
open Go.Vc
set_option linter.all false

theorem half_conv {a : Int} (h0 : 0 ≤ a) (h1 : a ≤ 9223372036854775807) : ∃ c : Int, 2 * c ≤ a ∧ a < 2 * c + 2 ∧ ∀ K : Value → Prop, K (.int .i64 c) → K (.int .i64 (IntKind.i64.wrap ((IntKind.u64.wrap a).fdiv (2 ^ (min (1 : Int).toNat IntKind.u64.bits))))) := by
 refine ⟨a / 2, by omega, by omega, fun K q => ?_⟩
 have e1 : IntKind.u64.wrap a = a := by rw [IntKind.wrap_u64]; omega
 have e2 : (2 : Int) ^ (min (1 : Int).toNat IntKind.u64.bits) = 2 := by decide
 have e3 : a.fdiv 2 = a / 2 := by rw [Int.fdiv_eq_ediv_of_nonneg _ (by omega)]
 have e4 : IntKind.i64.wrap (a / 2) = a / 2 := by rw [IntKind.wrap_i64]; omega
 rw [e1, e2, e3, e4]; exact q
abbrev nF (l : List Pk) (u v : Int) : Prop := ∀ x y, l[u.toNat]? = some y → l[v.toNat]? = some x → ¬ ltK (pkKey y) (pkKey x)
abbrev yF (l : List Pk) (u v : Int) : Prop := ∀ x y, l[u.toNat]? = some y → l[v.toNat]? = some x → ltK (pkKey y) (pkKey x)
theorem nF_of {l : List Pk} {u v : Int} {x y : Pk} (hy : l[u.toNat]? = some y) (hx : l[v.toNat]? = some x) (hc : ¬ pkCmp y x < 0) : nF l u v := fun p q hq hp => by
 rw [hy] at hq; rw [hx] at hp
 obtain rfl := Option.some.inj hq
 obtain rfl := Option.some.inj hp
 rw [← pkCmp_lt]; exact hc
theorem yF_of {l : List Pk} {u v : Int} {x y : Pk} (hy : l[u.toNat]? = some y) (hx : l[v.toNat]? = some x) (hc : pkCmp y x < 0) : yF l u v := fun p q hq hp => by
 rw [hy] at hq; rw [hx] at hp
 obtain rfl := Option.some.inj hq
 obtain rfl := Option.some.inj hp
 rw [← pkCmp_lt]; exact hc
/-- the first run is one element -/
theorem sym_fst {l : List Pk} {a m b i j : Int} (h0 : 0 ≤ a) (hm : m = a + 1) (hi : m ≤ i) (hij : i = j) (hj : j ≤ b) (hb : b ≤ (l.length : Int)) (hB : SoOn pkKey l m.toNat b.toNat) (hI : m < i → yF l (i - 1) a) (hJ : j < b → nF l j a) :
    Like pkKey l (rotL l a.toNat (a.toNat + 1) i.toNat) a.toNat b.toNat ∧ SoOn pkKey (rotL l a.toNat (a.toNat + 1) i.toNat) a.toNat b.toNat := by
  have e : m.toNat = a.toNat + 1 := by omega
  rw [e] at hB
  refine put_first (by omega) (by omega) (by omega) hB (fun x y h hx hy => hI (by omega) x y ?_ hx) (fun x y h hx hy => hJ (by omega) x y ?_ hx)
  · rw [← hy]; congr 1; omega
  · rw [← hy]; congr 1; omega
/-- the second run is one element -/
theorem sym_snd {l : List Pk} {a m b i j : Int} (h0 : 0 ≤ a) (hm : b = m + 1) (hi : a ≤ i) (hij : i = j) (hj : j ≤ m) (hb : b ≤ (l.length : Int)) (hA : SoOn pkKey l a.toNat m.toNat) (hI : a < i → nF l m (i - 1)) (hJ : j < m → yF l m j) :
    Like pkKey l (rotL l i.toNat m.toNat (m.toNat + 1)) a.toNat b.toNat ∧ SoOn pkKey (rotL l i.toNat m.toNat (m.toNat + 1)) a.toNat b.toNat := by
  have e : b.toNat = m.toNat + 1 := by omega
  rw [e]
  refine put_last (by omega) (by omega) (by omega) hA (fun x y h hx hy => hJ (by omega) x y hy ?_) (fun x y h hx hy => hI (by omega) x y hy ?_)
  · rw [← hx]; congr 1; omega
  · rw [← hx]; congr 1; omega
theorem up_step {l ll : List Pk} {a k : Int} {x y : Pk} (h0 : 0 ≤ a) (hk : a ≤ k) (hb : k + 1 < (l.length : Int)) (hll : ll = rotL l a.toNat (a.toNat + 1) (k.toNat + 1)) (hx : ll[k.toNat]? = some x) (hy : ll[(k + 1).toNat]? = some y) :
  (ll.set k.toNat y).set (k + 1).toNat x = rotL l a.toNat (a.toNat + 1) ((k + 1).toNat + 1) := by
 rw [swp_eq hx hy, hll]
 have e : (k + 1).toNat = k.toNat + 1 := by omega
 have q := rot_up (d := l) (a := a.toNat) (e := k.toNat + 1) (by omega) (by omega)
 rw [e]
 simpa using q
theorem down_step {l ll : List Pk} {m k : Int} {x y : Pk} (h0 : 0 < k) (hk : k ≤ m) (hb : m < (l.length : Int)) (hll : ll = rotL l k.toNat m.toNat (m.toNat + 1)) (hx : ll[(k - 1).toNat]? = some x) (hy : ll[k.toNat]? = some y) :
  (ll.set k.toNat x).set (k - 1).toNat y = rotL l (k - 1).toNat m.toNat (m.toNat + 1) := by
 rw [swp_eq hy hx, hll]
 have e : k.toNat = (k - 1).toNat + 1 := by omega
 have q := rot_down (d := l) (s := (k - 1).toNat) (m := m.toNat) (by omega) (by omega)
 rw [← e] at q
 exact q
/-- the place where both runs are turned -/
structure SymJ (l : List Pk) (a m b i c : Int) : Prop where
 h0 : 0 ≤ a
 h1 : a ≤ i
 h2 : i ≤ m
 h3 : m ≤ c + m - i
 h4 : c + m - i ≤ b
 h5 : b ≤ (l.length : Int)
 hA : SoOn pkKey l a.toNat m.toNat
 hB : SoOn pkKey l m.toNat b.toNat
 hF : a < i → c + m - i < b → nF l (c + m - i) (i - 1)
 hG : i < m → m < c + m - i → yF l (c + m - i - 1) i
theorem sj_hi {l : List Pk} {a m b c i j : Int} (h0 : 0 ≤ a) (h1 : a < m) (h2 : m < b) (h3 : b ≤ (l.length : Int)) (hA : SoOn pkKey l a.toNat m.toNat) (hB : SoOn pkKey l m.toNat b.toNat) (hl : 2 * c ≤ a + b) (hu : a + b < 2 * c + 2) (hc : c < m)
    (hi : c + m - b ≤ i) (hij : i = j) (hj : j ≤ c) (hI : c + m - b < i → nF l (c + m - 1 - (i - 1)) (i - 1)) (hJ : j < c → yF l (c + m - 1 - j) j) : SymJ l a m b i c := by
  subst hij
  refine ⟨h0, by omega, by omega, by omega, by omega, h3, hA, hB, fun _ _ => ?_, fun _ _ => ?_⟩
  · have := hI (by omega); rw [show c + m - i = c + m - 1 - (i - 1) by omega]; exact this
  · have := hJ (by omega); rw [show c + m - i - 1 = c + m - 1 - i by omega]; exact this
theorem sj_lo {l : List Pk} {a m b c i j : Int} (h0 : 0 ≤ a) (h1 : a < m) (h2 : m < b) (h3 : b ≤ (l.length : Int)) (hA : SoOn pkKey l a.toNat m.toNat) (hB : SoOn pkKey l m.toNat b.toNat) (hl : 2 * c ≤ a + b) (hu : a + b < 2 * c + 2) (hc : m ≤ c)
    (hi : a ≤ i) (hij : i = j) (hj : j ≤ m) (hI : a < i → nF l (c + m - 1 - (i - 1)) (i - 1)) (hJ : j < m → yF l (c + m - 1 - j) j) : SymJ l a m b i c := by
  subst hij
  refine ⟨h0, by omega, by omega, by omega, by omega, h3, hA, hB, fun _ _ => ?_, fun _ _ => ?_⟩
  · have := hI (by omega); rw [show c + m - i = c + m - 1 - (i - 1) by omega]; exact this
  · have := hJ (by omega); rw [show c + m - i - 1 = c + m - 1 - i by omega]; exact this
section
variable {l d1 d2 d3 : List Pk} {a m b i c : Int} (sj : SymJ l a m b i c)
include sj
theorem SymJ.id (h : ¬ (i < m ∧ m < c + m - i)) : rotL l i.toNat m.toNat (c + m - i).toNat = l := by
 obtain ⟨h0, h1, h2, h3, h4, h5, _, _, _, _⟩ := sj
 exact rotL_id (by omega) (by omega) (by omega) (by omega)
theorem SymJ.len (hd : d1 = rotL l i.toNat m.toNat (c + m - i).toNat) : d1.length = l.length := by
 obtain ⟨h0, h1, h2, h3, h4, h5, _, _, _, _⟩ := sj
 subst hd; exact rotL_len (by omega) (by omega) (by omega)
theorem SymJ.p1 (hd : d1 = rotL l i.toNat m.toNat (c + m - i).toNat) : SoOn pkKey d1 a.toNat i.toNat := by
 obtain ⟨h0, h1, h2, h3, h4, h5, hA, hB, _, _⟩ := sj
 subst hd; exact so_rot1 (by omega) (by omega) (by omega) hA (by omega)
theorem SymJ.p2 (hd : d1 = rotL l i.toNat m.toNat (c + m - i).toNat) : SoOn pkKey d1 i.toNat c.toNat := by
 obtain ⟨h0, h1, h2, h3, h4, h5, hA, hB, _, _⟩ := sj
 subst hd; exact so_rot2 (by omega) (by omega) (by omega) (by omega) hB (by omega)
theorem SymJ.p3 (hd : d1 = rotL l i.toNat m.toNat (c + m - i).toNat) (L : Like pkKey d1 d2 a.toNat c.toNat) : SoOn pkKey d2 c.toNat (c + m - i).toNat := by
 obtain ⟨h0, h1, h2, h3, h4, h5, hA, hB, _, _⟩ := sj
 have q : SoOn pkKey d1 c.toNat (c + m - i).toNat := by subst hd; exact so_rot3 (by omega) (by omega) (by omega) (by omega) hA (by omega)
 exact q.same (fun k k1 k2 => L.out k (.inr k1)) (Nat.le_refl _) (Nat.le_refl _)
theorem SymJ.p4 (hd : d1 = rotL l i.toNat m.toNat (c + m - i).toNat) (L : Like pkKey d1 d2 a.toNat c.toNat) : SoOn pkKey d2 (c + m - i).toNat b.toNat := by
 obtain ⟨h0, h1, h2, h3, h4, h5, hA, hB, _, _⟩ := sj
 have q : SoOn pkKey d1 (c + m - i).toNat b.toNat := by subst hd; exact so_rot4 (by omega) (by omega) (by omega) hB
 exact q.same (fun k k1 k2 => L.out k (.inr (by omega))) (Nat.le_refl _) (Nat.le_refl _)
theorem SymJ.no1 (hd : d1 = rotL l i.toNat m.toNat (c + m - i).toNat) (h : ¬ (a < i ∧ i < c)) : Like pkKey d1 d1 a.toNat c.toNat ∧ SoOn pkKey d1 a.toNat c.toNat := by
  have p1 := sj.p1 hd
  have p2 := sj.p2 hd
  obtain ⟨h0, h1, h2, h3, h4, h5, hA, hB, _, _⟩ := sj
  refine ⟨Like.refl _ _ _, ?_⟩
  by_cases e : a = i
  · subst e; exact p2
  · have e2 : i = c := by omega
    subst e2; exact p1
theorem SymJ.no2 (hd : d1 = rotL l i.toNat m.toNat (c + m - i).toNat) (L : Like pkKey d1 d2 a.toNat c.toNat) (h : ¬ (c < c + m - i ∧ c + m - i < b)) : Like pkKey d2 d2 c.toNat b.toNat ∧ SoOn pkKey d2 c.toNat b.toNat := by
  have p3 := sj.p3 hd L
  have p4 := sj.p4 hd L
  obtain ⟨h0, h1, h2, h3, h4, h5, hA, hB, _, _⟩ := sj
  refine ⟨Like.refl _ _ _, ?_⟩
  by_cases e : c = c + m - i
  · rw [← e] at p4; exact p4
  · have e2 : c + m - i = b := by omega
    rw [e2] at p3; exact p3
theorem SymJ.fin (hd : d1 = rotL l i.toNat m.toNat (c + m - i).toNat) (q1 : Like pkKey d1 d2 a.toNat c.toNat ∧ SoOn pkKey d2 a.toNat c.toNat) (q2 : Like pkKey d2 d3 c.toNat b.toNat ∧ SoOn pkKey d3 c.toNat b.toNat) : Like pkKey l d3 a.toNat b.toNat ∧ SoOn pkKey d3 a.toNat b.toNat := by
  obtain ⟨h0, h1, h2, h3, h4, h5, hA, hB, hF, hG⟩ := sj
  refine sym_join (s := i.toNat) (e := (c + m - i).toNat) (c := c.toNat) (by omega) (by omega) (by omega) (by omega) (by omega) (by omega) hA hB (fun x y k1 k2 hx hy => hG (by omega) (by omega) x y ?_ hx) (fun x y k1 k2 hx hy => hF (by omega) (by omega) x y hy ?_) hd q1.1 q1.2 q2.1 q2.2
  · rw [← hy]; congr 1; omega
  · rw [← hx]; congr 1; omega
end

set_option maxRecDepth 10000 in
set_option maxHeartbeats 4000000 in
theorem slices_symMergeCmpFunc_impl_Packet_ok (v_l : Value) (l : List Pk) (a : Int) (m : Int) (b : Int) (h : Heap) (s_l : SlO h v_l l) (N : Nat) (hN : (b - a).toNat = N) (h0 : 0 ≤ a) (h1 : a < m) (h2 : m < b) (h3 : b ≤ (l.length : Int)) (bl : l.length ≤ 1000000) (hA : SoOn pkKey l a.toNat m.toNat) (hB : SoOn pkKey l m.toNat b.toNat) (ih : ∀ (v_l : Value) (l : List Pk) (a m b : Int) (h : Heap), (b - a).toNat < N → SlO h v_l l → 0 ≤ a → a < m → m < b → b ≤ (l.length : Int) → l.length ≤ 1000000 → SoOn pkKey l a.toNat m.toNat → SoOn pkKey l m.toNat b.toNat → Cn f_slices_symMergeCmpFunc_impl_Packet [v_l, .int .i64 a, .int .i64 m, .int .i64 b, .func (.func 66) #[] #[]] h fun v h' => v = .tuple #[] ∧ ∃ l_ : List Pk, SlO h' v_l l_ ∧ Mod (blks v_l) h h' ∧ (Like pkKey l l_ a.toNat b.toNat ∧ SoOn pkKey l_ a.toNat b.toNat)) : Cn f_slices_symMergeCmpFunc_impl_Packet [v_l, .int .i64 a, .int .i64 m, .int .i64 b, .func (.func 66) #[] #[]] h fun v h' => v = .tuple #[] ∧ ∃ l_ : List Pk, SlO h' v_l l_ ∧ Mod (blks v_l) h h' ∧ (Like pkKey l l_ a.toNat b.toNat ∧ SoOn pkKey l_ a.toNat b.toNat) := by
 have lt_l := s_l.lt
 have l63_l := s_l.len63
 refine calls_of r_slices_symMergeCmpFunc_impl_Packet ?_
 refine v_seq ?_
 refine v_seq ?_
 refine v_ops ?_
 refine s_pure (.int .i64 m) (fun _ q => q) ?_
 refine s_pure (.int .i64 a) (fun _ q => q) ?_
 refine s_pure (.int .i64 (m - a)) (fun _ q => ArithVC.mk (by omega) q) ?_
 refine s_pure (.bool ((m - a) == 1)) (fun _ q => q) ?_
 refine s_nil ?_
 refine p_seqN ?_
 refine v_cond rfl (fun c1 => ?_) (fun c1 => ?_)
 ·
  refine v_seq ?_
  refine v_ops ?_
  refine s_pure (.int .i64 m) (fun _ q => q) ?_
  refine s_pure (.int .i64 m) (fun _ q => q) ?_
  refine s_nil ?_
  refine p_seqN ?_
  refine v_seq ?_
  refine v_ops ?_
  refine s_pure (.int .i64 b) (fun _ q => q) ?_
  refine s_pure (.int .i64 b) (fun _ q => q) ?_
  refine s_nil ?_
  refine p_seqN ?_
  refine v_seq ?_
  refine v_block ?_
  refine v_loop3 (α := Int) (β := Int) (γ := List Pk) (fun i j l0 => [(0, v_l), (1, .int .i64 a), (4, .func (.func 66) #[] #[]), (10, .int .i64 i), (11, .int .i64 j)]) (fun i j l0 hh => Mod (blks v_l) h hh ∧ SlO hh v_l l0 ∧ l0 = l ∧ m ≤ i ∧ i ≤ j ∧ j ≤ b ∧ (m < i → yF l (i - 1) a) ∧ (j < b → nF l j a)) (fun i j l0 => (j - i).toNat) m b l ⟨rfl, rfl, rfl, rfl, rfl⟩ ⟨(Mod.refl (blks v_l) h), s_l, (by exact ⟨rfl, by omega, by omega, by omega, fun hc => by omega, fun hc => by omega⟩)⟩ ?_
  rintro i j l0 R3 h2 ⟨Eh, s_l, ⟨hl0, hi, hij, hj, hI, hJ⟩⟩
  have zEh := Eh.size
  have lt_l := s_l.lt
  have hlen0 : l0.length = l.length := by rw [hl0]
  refine v_seq ?_
  refine v_seq ?_
  refine v_ops ?_
  refine s_pure (.int .i64 i) (fun _ q => q) ?_
  refine s_pure (.int .i64 j) (fun _ q => q) ?_
  refine s_pure (.bool (decide (i < j))) (fun _ q => q) ?_
  refine s_nil ?_
  refine p_seqN ?_
  refine v_cond rfl (fun c5 => ?_) (fun c5 => ?_)
  ·
   refine v_skip ?_
   refine p_seqN ?_
   refine v_block ?_
   refine v_seq ?_
   refine v_ops ?_
   refine s_pure (.int .i64 i) (fun _ q => q) ?_
   refine s_pure (.int .i64 j) (fun _ q => q) ?_
   refine s_pure (.int .i64 (i + j)) (fun _ q => ArithVC.mk (by omega) q) ?_
   refine s_pure (.int .u64 (IntKind.u64.wrap (i + j))) (fun _ q => q) ?_
   refine s_pure (.int .u64 (((IntKind.u64.wrap (i + j))).fdiv (2 ^ (min ((1) : Int).toNat IntKind.u64.bits)))) (fun _ q => ⟨by decide, q⟩) ?_
   obtain ⟨md6, hlmd6, humd6, hkmd6⟩ := half_conv (a := (i + j)) (by omega) (by omega)
   refine s_pure (.int .i64 md6) (fun _ q => hkmd6 _ q) ?_
   refine s_pure (.int .i64 md6) (fun _ q => q) ?_
   refine s_nil ?_
   refine p_seqN ?_
   refine v_seq ?_
   refine v_drawF ?_
   refine d_pureT (.func (.func 66) #[] #[]) (fun _ q => q) ?_
   refine d_pureT v_l (fun _ q => q) ?_
   refine d_pureT (.int .i64 md6) (fun _ q => q) ?_
   have hk7 : (md6).toNat < l0.length := (by first | omega | (simp; omega))
   obtain ⟨x8, hx8⟩ : ∃ x, l0[(md6).toNat]? = some x := ⟨_, List.getElem?_eq_getElem hk7⟩
   refine d_pureT (.pointer (some ⟨sblk v_l, soff v_l + ((md6).toNat) * 4, none⟩)) (fun _ q => s_l.idx (k := (md6).toNat) (by omega) hk7 q) ?_
   refine d_pureT v_l (fun _ q => q) ?_
   refine d_pureT (.int .i64 a) (fun _ q => q) ?_
   have hk9 : (a).toNat < l0.length := (by first | omega | (simp; omega))
   obtain ⟨x10, hx10⟩ : ∃ x, l0[(a).toNat]? = some x := ⟨_, List.getElem?_eq_getElem hk9⟩
   refine d_pureT (.pointer (some ⟨sblk v_l, soff v_l + ((a).toNat) * 4, none⟩)) (fun _ q => s_l.idx (k := (a).toNat) (by omega) hk9 q) ?_
   refine d_loadO (.agg #[.int .i64 x8.message, .int .i64 x8.part, .int .i64 x8.parts, x8.sv.v]) (fun _ q => s_l.loadN hx8 rfl q) ?_
   refine d_loadO (.agg #[.int .i64 x10.message, .int .i64 x10.part, .int .i64 x10.parts, x10.sv.v]) (fun _ q => s_l.loadN hx10 rfl q) ?_
   refine d_eff ?_
   refine s_callv [.agg #[.int .i64 x8.message, .int .i64 x8.part, .int .i64 x8.parts, x8.sv.v], .agg #[.int .i64 x10.message, .int .i64 x10.part, .int .i64 x10.parts, x10.sv.v]] rfl rfl (impl_SortPackets_1_ok x8 x10 _) ?_
   rintro _ h11 ⟨rfl, eh11⟩
   have E12 := Eh.trans (Mod.of_ext eh11 _)
   have z13 := eh11.size
   have G14 := eh11
   refine s_nil ⟨fun hl => (by cases hl), ?_⟩
   refine d_pureT (.bool (decide ((pkCmp x8 x10) < 0))) (fun _ q => q) ?_
   refine d_done ?_
   refine p_seqN ?_
   refine v_cond rfl (fun c15 => ?_) (fun c15 => ?_)
   ·
    refine v_ops ?_
    refine s_pure (.int .i64 md6) (fun _ q => q) ?_
    refine s_pure (.int .i64 (md6 + 1)) (fun _ q => ArithVC.mk (by omega) q) ?_
    refine s_pure (.int .i64 (md6 + 1)) (fun _ q => q) ?_
    refine s_nil ?_
    refine p_blkN ?_
    have f16 := (s_l.ext eh11)
    exact p_lpN ⟨(md6 + 1), j, l0, ⟨rfl, rfl, rfl, rfl, rfl⟩, ⟨E12, (sl_eq f16 rfl), (by first | exact ⟨hl0, by omega, by omega, by omega, fun _ => by (rw [show ∀ c : Int, c + 1 - 1 = c from fun c => by omega]; exact hl0 ▸ yF_of (by assumption) (by assumption) (by assumption)), hJ⟩ | exact ⟨hl0, by omega, by omega, by omega, hI, fun _ => hl0 ▸ nF_of (by assumption) (by assumption) (by assumption)⟩)⟩, by omega⟩
   ·
    refine v_ops ?_
    refine s_pure (.int .i64 md6) (fun _ q => q) ?_
    refine s_pure (.int .i64 md6) (fun _ q => q) ?_
    refine s_nil ?_
    refine p_blkN ?_
    have f17 := (s_l.ext eh11)
    exact p_lpN ⟨i, md6, l0, ⟨rfl, rfl, rfl, rfl, rfl⟩, ⟨E12, (sl_eq f17 rfl), (by first | exact ⟨hl0, by omega, by omega, by omega, fun _ => by (rw [show ∀ c : Int, c + 1 - 1 = c from fun c => by omega]; exact hl0 ▸ yF_of (by assumption) (by assumption) (by assumption)), hJ⟩ | exact ⟨hl0, by omega, by omega, by omega, hI, fun _ => hl0 ▸ nF_of (by assumption) (by assumption) (by assumption)⟩)⟩, by omega⟩
  ·
   refine v_exit ?_
   refine p_seqX ?_
   refine p_lpX ?_
   refine p_blkX ?_
   refine p_seqN ?_
   refine v_seq ?_
   refine v_seq ?_
   refine v_ops ?_
   refine s_pure (.int .i64 a) (fun _ q => q) ?_
   refine s_pure (.int .i64 a) (fun _ q => q) ?_
   refine s_nil ?_
   refine p_seqN ?_
   refine v_block ?_
   refine v_loop2 (α := Int) (β := List Pk) (fun k ll => [(0, v_l), (10, .int .i64 i), (13, .int .i64 k)]) (fun k ll hh => Mod (blks v_l) h hh ∧ SlO hh v_l ll ∧ a ≤ k ∧ (k ≤ i - 1) ∧ ll = rotL l a.toNat (a.toNat + 1) (k.toNat + 1)) (fun k ll => (i - k).toNat) a l0 ⟨rfl, rfl, rfl⟩ ⟨Eh, s_l, (by exact ⟨by omega, by omega, hl0.trans (rotL_id (by omega) (by omega) (by omega) (.inr rfl)).symm⟩)⟩ ?_
   rintro k ll R19 h18 ⟨Eh, s_l, ⟨hk, hki, hll⟩⟩
   have zEh := Eh.size
   have lt_l := s_l.lt
   have hlen : ll.length = l.length := by rw [hll]; exact rotL_len (by omega) (by omega) (by omega)
   refine v_seq ?_
   refine v_seq ?_
   refine v_ops ?_
   refine s_pure (.int .i64 k) (fun _ q => q) ?_
   refine s_pure (.int .i64 i) (fun _ q => q) ?_
   refine s_pure (.int .i64 (i - 1)) (fun _ q => ArithVC.mk (by omega) q) ?_
   refine s_pure (.bool (decide (k < (i - 1)))) (fun _ q => q) ?_
   refine s_nil ?_
   refine p_seqN ?_
   refine v_cond rfl (fun c21 => ?_) (fun c21 => ?_)
   ·
    refine v_skip ?_
    refine p_seqN ?_
    refine v_seq ?_
    refine v_block ?_
    refine v_drawF ?_
    refine d_pureT v_l (fun _ q => q) ?_
    refine d_pureT (.int .i64 k) (fun _ q => q) ?_
    refine d_pureT v_l (fun _ q => q) ?_
    refine d_pureT (.int .i64 k) (fun _ q => q) ?_
    refine d_pureT (.int .i64 (k + 1)) (fun _ q => ArithVC.mk (by omega) q) ?_
    refine d_pureT v_l (fun _ q => q) ?_
    refine d_pureT (.int .i64 k) (fun _ q => q) ?_
    refine d_pureT (.int .i64 (k + 1)) (fun _ q => ArithVC.mk (by omega) q) ?_
    have hk22 : ((k + 1)).toNat < ll.length := (by first | omega | (simp; omega))
    obtain ⟨x23, hx23⟩ : ∃ x, ll[((k + 1)).toNat]? = some x := ⟨_, List.getElem?_eq_getElem hk22⟩
    refine d_pureT (.pointer (some ⟨sblk v_l, soff v_l + (((k + 1)).toNat) * 4, none⟩)) (fun _ q => s_l.idx (k := ((k + 1)).toNat) (by omega) hk22 q) ?_
    refine d_pureT v_l (fun _ q => q) ?_
    refine d_pureT (.int .i64 k) (fun _ q => q) ?_
    have hk24 : (k).toNat < ll.length := (by first | omega | (simp; omega))
    obtain ⟨x25, hx25⟩ : ∃ x, ll[(k).toNat]? = some x := ⟨_, List.getElem?_eq_getElem hk24⟩
    refine d_pureT (.pointer (some ⟨sblk v_l, soff v_l + ((k).toNat) * 4, none⟩)) (fun _ q => s_l.idx (k := (k).toNat) (by omega) hk24 q) ?_
    refine d_loadO (.agg #[.int .i64 x23.message, .int .i64 x23.part, .int .i64 x23.parts, x23.sv.v]) (fun _ q => s_l.loadN hx23 rfl q) ?_
    refine d_loadO (.agg #[.int .i64 x25.message, .int .i64 x25.part, .int .i64 x25.parts, x25.sv.v]) (fun _ q => s_l.loadN hx25 rfl q) ?_
    refine d_pureT (.pointer (some ⟨sblk v_l, soff v_l + ((k).toNat) * 4, none⟩)) (fun _ q => s_l.idx (k := (k).toNat) (by omega) hk24 q) ?_
    refine d_eff ?_
    refine s_stSl (k := (k).toNat) (j := 0) x23 (.agg #[.int .i64 x23.message, .int .i64 x23.part, .int .i64 x23.parts, x23.sv.v]) [.int .i64 x23.message, .int .i64 x23.part, .int .i64 x23.parts, x23.sv.v] s_l rfl rfl rfl rfl rfl hx25 (Nat.le_of_ble_eq_true rfl) rfl (all_cons rfl (all_cons rfl (all_cons rfl (all_cons rfl all_nil)))) (fun h26 mh26 sh26 s27 => ?_)
    have E28 := Eh.new mh26 (fun b hb => Or.inl hb)
    refine s_nil ⟨fun hl => (by cases hl), ?_⟩
    have hk29 : ((k + 1)).toNat < (ll.set ((k).toNat) x23).length := (by first | omega | (simp; omega))
    obtain ⟨x30, hx30⟩ : ∃ x, (ll.set ((k).toNat) x23)[((k + 1)).toNat]? = some x := ⟨_, List.getElem?_eq_getElem hk29⟩
    refine d_pureT (.pointer (some ⟨sblk v_l, soff v_l + (((k + 1)).toNat) * 4, none⟩)) (fun _ q => s27.idx (k := ((k + 1)).toNat) (by omega) hk29 q) ?_
    refine d_eff ?_
    refine s_stSl (k := ((k + 1)).toNat) (j := 0) x25 (.agg #[.int .i64 x25.message, .int .i64 x25.part, .int .i64 x25.parts, x25.sv.v]) [.int .i64 x25.message, .int .i64 x25.part, .int .i64 x25.parts, x25.sv.v] s27 rfl rfl rfl rfl rfl hx30 (Nat.le_of_ble_eq_true rfl) rfl (all_cons rfl (all_cons rfl (all_cons rfl (all_cons rfl all_nil)))) (fun h31 mh31 sh31 s32 => ?_)
    have E33 := E28.new mh31 (fun b hb => Or.inl hb)
    refine s_nil ⟨fun hl => (by cases hl), ?_⟩
    refine d_done ?_
    refine p_blkN ?_
    refine p_seqN ?_
    refine v_ops ?_
    refine s_pure (.int .i64 k) (fun _ q => q) ?_
    refine s_pure (.int .i64 (k + 1)) (fun _ q => ArithVC.mk (by omega) q) ?_
    refine s_pure (.int .i64 (k + 1)) (fun _ q => q) ?_
    refine s_nil ?_
    exact p_lpN ⟨(k + 1), ((ll.set ((k).toNat) x23).set (((k + 1)).toNat) x25), ⟨rfl, rfl, rfl⟩, ⟨E33, (sl_eq s32 rfl), (by exact ⟨by omega, by omega, up_step h0 hk (by omega) hll (by assumption) (by assumption)⟩)⟩, by omega⟩
   ·
    refine v_exit ?_
    refine p_seqX ?_
    refine p_lpX ?_
    refine p_blkX ?_
    refine p_seqN ?_
    refine v_ret ?_
    refine p_seqR ?_
    refine p_ret [] (.tuple #[]) (fun _ q => q) rfl ?_
    have hz : Like pkKey l ll a.toNat b.toNat ∧ SoOn pkKey ll a.toNat b.toNat := by first | (rw [hll, show (k.toNat + 1) = i.toNat by omega]; exact sym_fst h0 (by omega) hi (by omega) hj h3 hB hI hJ) | (rw [hll, show k = i by omega]; exact sym_snd h0 (by omega) hi (by omega) hj h3 hA hI hJ)
    exact ⟨rfl, ll, s_l, Eh, hz⟩
 ·
  refine v_skip ?_
  refine p_seqN ?_
  refine v_seq ?_
  refine v_seq ?_
  refine v_ops ?_
  refine s_pure (.int .i64 b) (fun _ q => q) ?_
  refine s_pure (.int .i64 m) (fun _ q => q) ?_
  refine s_pure (.int .i64 (b - m)) (fun _ q => ArithVC.mk (by omega) q) ?_
  refine s_pure (.bool ((b - m) == 1)) (fun _ q => q) ?_
  refine s_nil ?_
  refine p_seqN ?_
  refine v_cond rfl (fun c34 => ?_) (fun c34 => ?_)
  ·
   refine v_seq ?_
   refine v_ops ?_
   refine s_pure (.int .i64 a) (fun _ q => q) ?_
   refine s_pure (.int .i64 a) (fun _ q => q) ?_
   refine s_nil ?_
   refine p_seqN ?_
   refine v_seq ?_
   refine v_ops ?_
   refine s_pure (.int .i64 m) (fun _ q => q) ?_
   refine s_pure (.int .i64 m) (fun _ q => q) ?_
   refine s_nil ?_
   refine p_seqN ?_
   refine v_seq ?_
   refine v_block ?_
   refine v_loop3 (α := Int) (β := Int) (γ := List Pk) (fun i j l0 => [(0, v_l), (2, .int .i64 m), (4, .func (.func 66) #[] #[]), (14, .int .i64 i), (15, .int .i64 j)]) (fun i j l0 hh => Mod (blks v_l) h hh ∧ SlO hh v_l l0 ∧ l0 = l ∧ a ≤ i ∧ i ≤ j ∧ j ≤ m ∧ (a < i → nF l m (i - 1)) ∧ (j < m → yF l m j)) (fun i j l0 => (j - i).toNat) a m l ⟨rfl, rfl, rfl, rfl, rfl⟩ ⟨(Mod.refl (blks v_l) h), s_l, (by exact ⟨rfl, by omega, by omega, by omega, fun hc => by omega, fun hc => by omega⟩)⟩ ?_
   rintro i j l0 R36 h35 ⟨Eh, s_l, ⟨hl0, hi, hij, hj, hI, hJ⟩⟩
   have zEh := Eh.size
   have lt_l := s_l.lt
   have hlen0 : l0.length = l.length := by rw [hl0]
   refine v_seq ?_
   refine v_seq ?_
   refine v_ops ?_
   refine s_pure (.int .i64 i) (fun _ q => q) ?_
   refine s_pure (.int .i64 j) (fun _ q => q) ?_
   refine s_pure (.bool (decide (i < j))) (fun _ q => q) ?_
   refine s_nil ?_
   refine p_seqN ?_
   refine v_cond rfl (fun c38 => ?_) (fun c38 => ?_)
   ·
    refine v_skip ?_
    refine p_seqN ?_
    refine v_block ?_
    refine v_seq ?_
    refine v_ops ?_
    refine s_pure (.int .i64 i) (fun _ q => q) ?_
    refine s_pure (.int .i64 j) (fun _ q => q) ?_
    refine s_pure (.int .i64 (i + j)) (fun _ q => ArithVC.mk (by omega) q) ?_
    refine s_pure (.int .u64 (IntKind.u64.wrap (i + j))) (fun _ q => q) ?_
    refine s_pure (.int .u64 (((IntKind.u64.wrap (i + j))).fdiv (2 ^ (min ((1) : Int).toNat IntKind.u64.bits)))) (fun _ q => ⟨by decide, q⟩) ?_
    obtain ⟨md39, hlmd39, humd39, hkmd39⟩ := half_conv (a := (i + j)) (by omega) (by omega)
    refine s_pure (.int .i64 md39) (fun _ q => hkmd39 _ q) ?_
    refine s_pure (.int .i64 md39) (fun _ q => q) ?_
    refine s_nil ?_
    refine p_seqN ?_
    refine v_seq ?_
    refine v_drawF ?_
    refine d_pureT (.func (.func 66) #[] #[]) (fun _ q => q) ?_
    refine d_pureT v_l (fun _ q => q) ?_
    refine d_pureT (.int .i64 m) (fun _ q => q) ?_
    have hk40 : (m).toNat < l0.length := (by first | omega | (simp; omega))
    obtain ⟨x41, hx41⟩ : ∃ x, l0[(m).toNat]? = some x := ⟨_, List.getElem?_eq_getElem hk40⟩
    refine d_pureT (.pointer (some ⟨sblk v_l, soff v_l + ((m).toNat) * 4, none⟩)) (fun _ q => s_l.idx (k := (m).toNat) (by omega) hk40 q) ?_
    refine d_pureT v_l (fun _ q => q) ?_
    refine d_pureT (.int .i64 md39) (fun _ q => q) ?_
    have hk42 : (md39).toNat < l0.length := (by first | omega | (simp; omega))
    obtain ⟨x43, hx43⟩ : ∃ x, l0[(md39).toNat]? = some x := ⟨_, List.getElem?_eq_getElem hk42⟩
    refine d_pureT (.pointer (some ⟨sblk v_l, soff v_l + ((md39).toNat) * 4, none⟩)) (fun _ q => s_l.idx (k := (md39).toNat) (by omega) hk42 q) ?_
    refine d_loadO (.agg #[.int .i64 x41.message, .int .i64 x41.part, .int .i64 x41.parts, x41.sv.v]) (fun _ q => s_l.loadN hx41 rfl q) ?_
    refine d_loadO (.agg #[.int .i64 x43.message, .int .i64 x43.part, .int .i64 x43.parts, x43.sv.v]) (fun _ q => s_l.loadN hx43 rfl q) ?_
    refine d_eff ?_
    refine s_callv [.agg #[.int .i64 x41.message, .int .i64 x41.part, .int .i64 x41.parts, x41.sv.v], .agg #[.int .i64 x43.message, .int .i64 x43.part, .int .i64 x43.parts, x43.sv.v]] rfl rfl (impl_SortPackets_1_ok x41 x43 _) ?_
    rintro _ h44 ⟨rfl, eh44⟩
    have E45 := Eh.trans (Mod.of_ext eh44 _)
    have z46 := eh44.size
    have G47 := eh44
    refine s_nil ⟨fun hl => (by cases hl), ?_⟩
    refine d_pureT (.bool (decide ((pkCmp x41 x43) < 0))) (fun _ q => q) ?_
    refine d_pureT (.bool (!(decide ((pkCmp x41 x43) < 0)))) (fun _ q => q) ?_
    refine d_done ?_
    refine p_seqN ?_
    refine v_cond rfl (fun c48 => ?_) (fun c48 => ?_)
    ·
     refine v_ops ?_
     refine s_pure (.int .i64 md39) (fun _ q => q) ?_
     refine s_pure (.int .i64 (md39 + 1)) (fun _ q => ArithVC.mk (by omega) q) ?_
     refine s_pure (.int .i64 (md39 + 1)) (fun _ q => q) ?_
     refine s_nil ?_
     refine p_blkN ?_
     have f49 := (s_l.ext eh44)
     exact p_lpN ⟨(md39 + 1), j, l0, ⟨rfl, rfl, rfl, rfl, rfl⟩, ⟨E45, (sl_eq f49 rfl), (by first | exact ⟨hl0, by omega, by omega, by omega, fun _ => by (rw [show ∀ c : Int, c + 1 - 1 = c from fun c => by omega]; exact hl0 ▸ nF_of (by assumption) (by assumption) (by assumption)), hJ⟩ | exact ⟨hl0, by omega, by omega, by omega, hI, fun _ => hl0 ▸ yF_of (by assumption) (by assumption) (by assumption)⟩)⟩, by omega⟩
    ·
     have c48 := Classical.not_not.1 c48
     refine v_ops ?_
     refine s_pure (.int .i64 md39) (fun _ q => q) ?_
     refine s_pure (.int .i64 md39) (fun _ q => q) ?_
     refine s_nil ?_
     refine p_blkN ?_
     have f50 := (s_l.ext eh44)
     exact p_lpN ⟨i, md39, l0, ⟨rfl, rfl, rfl, rfl, rfl⟩, ⟨E45, (sl_eq f50 rfl), (by first | exact ⟨hl0, by omega, by omega, by omega, fun _ => by (rw [show ∀ c : Int, c + 1 - 1 = c from fun c => by omega]; exact hl0 ▸ nF_of (by assumption) (by assumption) (by assumption)), hJ⟩ | exact ⟨hl0, by omega, by omega, by omega, hI, fun _ => hl0 ▸ yF_of (by assumption) (by assumption) (by assumption)⟩)⟩, by omega⟩
   ·
    refine v_exit ?_
    refine p_seqX ?_
    refine p_lpX ?_
    refine p_blkX ?_
    refine p_seqN ?_
    refine v_seq ?_
    refine v_seq ?_
    refine v_ops ?_
    refine s_pure (.int .i64 m) (fun _ q => q) ?_
    refine s_pure (.int .i64 m) (fun _ q => q) ?_
    refine s_nil ?_
    refine p_seqN ?_
    refine v_block ?_
    refine v_loop2 (α := Int) (β := List Pk) (fun k ll => [(0, v_l), (14, .int .i64 i), (17, .int .i64 k)]) (fun k ll hh => Mod (blks v_l) h hh ∧ SlO hh v_l ll ∧ i ≤ k ∧ k ≤ m ∧ ll = rotL l k.toNat m.toNat (m.toNat + 1)) (fun k ll => (k - i).toNat) m l0 ⟨rfl, rfl, rfl⟩ ⟨Eh, s_l, (by exact ⟨by omega, by omega, hl0.trans (rotL_id (by omega) (by omega) (by omega) (.inl rfl)).symm⟩)⟩ ?_
    rintro k ll R52 h51 ⟨Eh, s_l, ⟨hik, hkm, hll⟩⟩
    have zEh := Eh.size
    have lt_l := s_l.lt
    have hlen : ll.length = l.length := by rw [hll]; exact rotL_len (by omega) (by omega) (by omega)
    refine v_seq ?_
    refine v_seq ?_
    refine v_ops ?_
    refine s_pure (.int .i64 k) (fun _ q => q) ?_
    refine s_pure (.int .i64 i) (fun _ q => q) ?_
    refine s_pure (.bool (decide (k > i))) (fun _ q => q) ?_
    refine s_nil ?_
    refine p_seqN ?_
    refine v_cond rfl (fun c54 => ?_) (fun c54 => ?_)
    ·
     refine v_skip ?_
     refine p_seqN ?_
     refine v_seq ?_
     refine v_block ?_
     refine v_drawF ?_
     refine d_pureT v_l (fun _ q => q) ?_
     refine d_pureT (.int .i64 k) (fun _ q => q) ?_
     refine d_pureT v_l (fun _ q => q) ?_
     refine d_pureT (.int .i64 k) (fun _ q => q) ?_
     refine d_pureT (.int .i64 (k - 1)) (fun _ q => ArithVC.mk (by omega) q) ?_
     refine d_pureT v_l (fun _ q => q) ?_
     refine d_pureT (.int .i64 k) (fun _ q => q) ?_
     refine d_pureT (.int .i64 (k - 1)) (fun _ q => ArithVC.mk (by omega) q) ?_
     have hk55 : ((k - 1)).toNat < ll.length := (by first | omega | (simp; omega))
     obtain ⟨x56, hx56⟩ : ∃ x, ll[((k - 1)).toNat]? = some x := ⟨_, List.getElem?_eq_getElem hk55⟩
     refine d_pureT (.pointer (some ⟨sblk v_l, soff v_l + (((k - 1)).toNat) * 4, none⟩)) (fun _ q => s_l.idx (k := ((k - 1)).toNat) (by omega) hk55 q) ?_
     refine d_pureT v_l (fun _ q => q) ?_
     refine d_pureT (.int .i64 k) (fun _ q => q) ?_
     have hk57 : (k).toNat < ll.length := (by first | omega | (simp; omega))
     obtain ⟨x58, hx58⟩ : ∃ x, ll[(k).toNat]? = some x := ⟨_, List.getElem?_eq_getElem hk57⟩
     refine d_pureT (.pointer (some ⟨sblk v_l, soff v_l + ((k).toNat) * 4, none⟩)) (fun _ q => s_l.idx (k := (k).toNat) (by omega) hk57 q) ?_
     refine d_loadO (.agg #[.int .i64 x56.message, .int .i64 x56.part, .int .i64 x56.parts, x56.sv.v]) (fun _ q => s_l.loadN hx56 rfl q) ?_
     refine d_loadO (.agg #[.int .i64 x58.message, .int .i64 x58.part, .int .i64 x58.parts, x58.sv.v]) (fun _ q => s_l.loadN hx58 rfl q) ?_
     refine d_pureT (.pointer (some ⟨sblk v_l, soff v_l + ((k).toNat) * 4, none⟩)) (fun _ q => s_l.idx (k := (k).toNat) (by omega) hk57 q) ?_
     refine d_eff ?_
     refine s_stSl (k := (k).toNat) (j := 0) x56 (.agg #[.int .i64 x56.message, .int .i64 x56.part, .int .i64 x56.parts, x56.sv.v]) [.int .i64 x56.message, .int .i64 x56.part, .int .i64 x56.parts, x56.sv.v] s_l rfl rfl rfl rfl rfl hx58 (Nat.le_of_ble_eq_true rfl) rfl (all_cons rfl (all_cons rfl (all_cons rfl (all_cons rfl all_nil)))) (fun h59 mh59 sh59 s60 => ?_)
     have E61 := Eh.new mh59 (fun b hb => Or.inl hb)
     refine s_nil ⟨fun hl => (by cases hl), ?_⟩
     have hk62 : ((k - 1)).toNat < (ll.set ((k).toNat) x56).length := (by first | omega | (simp; omega))
     obtain ⟨x63, hx63⟩ : ∃ x, (ll.set ((k).toNat) x56)[((k - 1)).toNat]? = some x := ⟨_, List.getElem?_eq_getElem hk62⟩
     refine d_pureT (.pointer (some ⟨sblk v_l, soff v_l + (((k - 1)).toNat) * 4, none⟩)) (fun _ q => s60.idx (k := ((k - 1)).toNat) (by omega) hk62 q) ?_
     refine d_eff ?_
     refine s_stSl (k := ((k - 1)).toNat) (j := 0) x58 (.agg #[.int .i64 x58.message, .int .i64 x58.part, .int .i64 x58.parts, x58.sv.v]) [.int .i64 x58.message, .int .i64 x58.part, .int .i64 x58.parts, x58.sv.v] s60 rfl rfl rfl rfl rfl hx63 (Nat.le_of_ble_eq_true rfl) rfl (all_cons rfl (all_cons rfl (all_cons rfl (all_cons rfl all_nil)))) (fun h64 mh64 sh64 s65 => ?_)
     have E66 := E61.new mh64 (fun b hb => Or.inl hb)
     refine s_nil ⟨fun hl => (by cases hl), ?_⟩
     refine d_done ?_
     refine p_blkN ?_
     refine p_seqN ?_
     refine v_ops ?_
     refine s_pure (.int .i64 k) (fun _ q => q) ?_
     refine s_pure (.int .i64 (k - 1)) (fun _ q => ArithVC.mk (by omega) q) ?_
     refine s_pure (.int .i64 (k - 1)) (fun _ q => q) ?_
     refine s_nil ?_
     exact p_lpN ⟨(k - 1), ((ll.set ((k).toNat) x56).set (((k - 1)).toNat) x58), ⟨rfl, rfl, rfl⟩, ⟨E66, (sl_eq s65 rfl), (by exact ⟨by omega, by omega, down_step (by omega) hkm (by omega) hll (by assumption) (by assumption)⟩)⟩, by omega⟩
    ·
     refine v_exit ?_
     refine p_seqX ?_
     refine p_lpX ?_
     refine p_blkX ?_
     refine p_seqN ?_
     refine v_ret ?_
     refine p_seqR ?_
     refine p_ret [] (.tuple #[]) (fun _ q => q) rfl ?_
     have hz : Like pkKey l ll a.toNat b.toNat ∧ SoOn pkKey ll a.toNat b.toNat := by first | (rw [hll, show (k.toNat + 1) = i.toNat by omega]; exact sym_fst h0 (by omega) hi (by omega) hj h3 hB hI hJ) | (rw [hll, show k = i by omega]; exact sym_snd h0 (by omega) hi (by omega) hj h3 hA hI hJ)
     exact ⟨rfl, ll, s_l, Eh, hz⟩
  ·
   refine v_skip ?_
   refine p_seqN ?_
   refine v_seq ?_
   refine v_ops ?_
   refine s_pure (.int .i64 a) (fun _ q => q) ?_
   refine s_pure (.int .i64 b) (fun _ q => q) ?_
   refine s_pure (.int .i64 (a + b)) (fun _ q => ArithVC.mk (by omega) q) ?_
   refine s_pure (.int .u64 (IntKind.u64.wrap (a + b))) (fun _ q => q) ?_
   refine s_pure (.int .u64 (((IntKind.u64.wrap (a + b))).fdiv (2 ^ (min ((1) : Int).toNat IntKind.u64.bits)))) (fun _ q => ⟨by decide, q⟩) ?_
   obtain ⟨md67, hlmd67, humd67, hkmd67⟩ := half_conv (a := (a + b)) (by omega) (by omega)
   refine s_pure (.int .i64 md67) (fun _ q => hkmd67 _ q) ?_
   refine s_pure (.int .i64 md67) (fun _ q => q) ?_
   refine s_nil ?_
   refine p_seqN ?_
   refine v_seq ?_
   refine v_ops ?_
   refine s_pure (.int .i64 md67) (fun _ q => q) ?_
   refine s_pure (.int .i64 m) (fun _ q => q) ?_
   refine s_pure (.int .i64 (md67 + m)) (fun _ q => ArithVC.mk (by omega) q) ?_
   refine s_pure (.int .i64 (md67 + m)) (fun _ q => q) ?_
   refine s_nil ?_
   refine p_seqN ?_
   refine v_seq ?_
   refine v_ops ?_
   refine s_pure (.int .i64 0) (fun _ q => q) ?_
   refine s_pure (.int .i64 0) (fun _ q => q) ?_
   refine s_nil ?_
   refine p_seqN ?_
   refine v_seq ?_
   refine v_seq ?_
   refine v_ops ?_
   refine s_pure (.int .i64 m) (fun _ q => q) ?_
   refine s_pure (.int .i64 md67) (fun _ q => q) ?_
   refine s_pure (.bool (decide (m > md67))) (fun _ q => q) ?_
   refine s_nil ?_
   refine p_seqN ?_
   refine v_cond rfl (fun c68 => ?_) (fun c68 => ?_)
   ·
    refine v_seq ?_
    refine v_ops ?_
    refine s_pure (.int .i64 (md67 + m)) (fun _ q => q) ?_
    refine s_pure (.int .i64 b) (fun _ q => q) ?_
    refine s_pure (.int .i64 ((md67 + m) - b)) (fun _ q => ArithVC.mk (by omega) q) ?_
    refine s_pure (.int .i64 ((md67 + m) - b)) (fun _ q => q) ?_
    refine s_nil ?_
    refine p_seqN ?_
    refine v_ops ?_
    refine s_pure (.int .i64 md67) (fun _ q => q) ?_
    refine s_pure (.int .i64 md67) (fun _ q => q) ?_
    refine s_nil ?_
    refine p_seqN ?_
    refine v_seq ?_
    refine v_ops ?_
    refine s_pure (.int .i64 (md67 + m)) (fun _ q => q) ?_
    refine s_pure (.int .i64 ((md67 + m) - 1)) (fun _ q => ArithVC.mk (by omega) q) ?_
    refine s_pure (.int .i64 ((md67 + m) - 1)) (fun _ q => q) ?_
    refine s_nil ?_
    refine p_seqN ?_
    refine v_seq ?_
    refine v_block ?_
    refine v_loop3 (α := Int) (β := Int) (γ := List Pk) (fun i j l0 => [(0, v_l), (1, .int .i64 a), (2, .int .i64 m), (3, .int .i64 b), (4, .func (.func 66) #[] #[]), (18, .int .i64 md67), (19, .int .i64 (md67 + m)), (20, .int .i64 i), (21, .int .i64 j), (22, .int .i64 ((md67 + m) - 1))]) (fun i j l0 hh => Mod (blks v_l) h hh ∧ SlO hh v_l l0 ∧ l0 = l ∧ ((md67 + m) - b) ≤ i ∧ i ≤ j ∧ j ≤ md67 ∧ (((md67 + m) - b) < i → nF l (((md67 + m) - 1) - (i - 1)) (i - 1)) ∧ (j < md67 → yF l (((md67 + m) - 1) - j) j)) (fun i j l0 => (j - i).toNat) ((md67 + m) - b) md67 l ⟨rfl, rfl, rfl, rfl, rfl, rfl, rfl, rfl, rfl, rfl⟩ ⟨(Mod.refl (blks v_l) h), s_l, (by exact ⟨rfl, by omega, by omega, by omega, fun hc => by omega, fun hc => by omega⟩)⟩ ?_
    rintro i j l0 R70 h69 ⟨Eh, s_l, ⟨hl0, hi, hij, hj, hI, hJ⟩⟩
    have zEh := Eh.size
    have lt_l := s_l.lt
    have hlen0 : l0.length = l.length := by rw [hl0]
    refine v_seq ?_
    refine v_seq ?_
    refine v_ops ?_
    refine s_pure (.int .i64 i) (fun _ q => q) ?_
    refine s_pure (.int .i64 j) (fun _ q => q) ?_
    refine s_pure (.bool (decide (i < j))) (fun _ q => q) ?_
    refine s_nil ?_
    refine p_seqN ?_
    refine v_cond rfl (fun c72 => ?_) (fun c72 => ?_)
    ·
     refine v_skip ?_
     refine p_seqN ?_
     refine v_block ?_
     refine v_seq ?_
     refine v_ops ?_
     refine s_pure (.int .i64 i) (fun _ q => q) ?_
     refine s_pure (.int .i64 j) (fun _ q => q) ?_
     refine s_pure (.int .i64 (i + j)) (fun _ q => ArithVC.mk (by omega) q) ?_
     refine s_pure (.int .u64 (IntKind.u64.wrap (i + j))) (fun _ q => q) ?_
     refine s_pure (.int .u64 (((IntKind.u64.wrap (i + j))).fdiv (2 ^ (min ((1) : Int).toNat IntKind.u64.bits)))) (fun _ q => ⟨by decide, q⟩) ?_
     obtain ⟨md73, hlmd73, humd73, hkmd73⟩ := half_conv (a := (i + j)) (by omega) (by omega)
     refine s_pure (.int .i64 md73) (fun _ q => hkmd73 _ q) ?_
     refine s_pure (.int .i64 md73) (fun _ q => q) ?_
     refine s_nil ?_
     refine p_seqN ?_
     refine v_seq ?_
     refine v_drawF ?_
     refine d_pureT (.func (.func 66) #[] #[]) (fun _ q => q) ?_
     refine d_pureT v_l (fun _ q => q) ?_
     refine d_pureT (.int .i64 ((md67 + m) - 1)) (fun _ q => q) ?_
     refine d_pureT (.int .i64 md73) (fun _ q => q) ?_
     refine d_pureT (.int .i64 (((md67 + m) - 1) - md73)) (fun _ q => ArithVC.mk (by omega) q) ?_
     have hk74 : ((((md67 + m) - 1) - md73)).toNat < l0.length := (by first | omega | (simp; omega))
     obtain ⟨x75, hx75⟩ : ∃ x, l0[((((md67 + m) - 1) - md73)).toNat]? = some x := ⟨_, List.getElem?_eq_getElem hk74⟩
     refine d_pureT (.pointer (some ⟨sblk v_l, soff v_l + (((((md67 + m) - 1) - md73)).toNat) * 4, none⟩)) (fun _ q => s_l.idx (k := ((((md67 + m) - 1) - md73)).toNat) (by omega) hk74 q) ?_
     refine d_pureT v_l (fun _ q => q) ?_
     refine d_pureT (.int .i64 md73) (fun _ q => q) ?_
     have hk76 : (md73).toNat < l0.length := (by first | omega | (simp; omega))
     obtain ⟨x77, hx77⟩ : ∃ x, l0[(md73).toNat]? = some x := ⟨_, List.getElem?_eq_getElem hk76⟩
     refine d_pureT (.pointer (some ⟨sblk v_l, soff v_l + ((md73).toNat) * 4, none⟩)) (fun _ q => s_l.idx (k := (md73).toNat) (by omega) hk76 q) ?_
     refine d_loadO (.agg #[.int .i64 x75.message, .int .i64 x75.part, .int .i64 x75.parts, x75.sv.v]) (fun _ q => s_l.loadN hx75 rfl q) ?_
     refine d_loadO (.agg #[.int .i64 x77.message, .int .i64 x77.part, .int .i64 x77.parts, x77.sv.v]) (fun _ q => s_l.loadN hx77 rfl q) ?_
     refine d_eff ?_
     refine s_callv [.agg #[.int .i64 x75.message, .int .i64 x75.part, .int .i64 x75.parts, x75.sv.v], .agg #[.int .i64 x77.message, .int .i64 x77.part, .int .i64 x77.parts, x77.sv.v]] rfl rfl (impl_SortPackets_1_ok x75 x77 _) ?_
     rintro _ h78 ⟨rfl, eh78⟩
     have E79 := Eh.trans (Mod.of_ext eh78 _)
     have z80 := eh78.size
     have G81 := eh78
     refine s_nil ⟨fun hl => (by cases hl), ?_⟩
     refine d_pureT (.bool (decide ((pkCmp x75 x77) < 0))) (fun _ q => q) ?_
     refine d_pureT (.bool (!(decide ((pkCmp x75 x77) < 0)))) (fun _ q => q) ?_
     refine d_done ?_
     refine p_seqN ?_
     refine v_cond rfl (fun c82 => ?_) (fun c82 => ?_)
     ·
      refine v_ops ?_
      refine s_pure (.int .i64 md73) (fun _ q => q) ?_
      refine s_pure (.int .i64 (md73 + 1)) (fun _ q => ArithVC.mk (by omega) q) ?_
      refine s_pure (.int .i64 (md73 + 1)) (fun _ q => q) ?_
      refine s_nil ?_
      refine p_blkN ?_
      have f83 := (s_l.ext eh78)
      exact p_lpN ⟨(md73 + 1), j, l0, ⟨rfl, rfl, rfl, rfl, rfl, rfl, rfl, rfl, rfl, rfl⟩, ⟨E79, (sl_eq f83 rfl), (by first | exact ⟨hl0, by omega, by omega, by omega, fun _ => by (rw [show ∀ c : Int, c + 1 - 1 = c from fun c => by omega]; exact hl0 ▸ nF_of (by assumption) (by assumption) (by assumption)), hJ⟩ | exact ⟨hl0, by omega, by omega, by omega, hI, fun _ => hl0 ▸ yF_of (by assumption) (by assumption) (by assumption)⟩)⟩, by omega⟩
     ·
      have c82 := Classical.not_not.1 c82
      refine v_ops ?_
      refine s_pure (.int .i64 md73) (fun _ q => q) ?_
      refine s_pure (.int .i64 md73) (fun _ q => q) ?_
      refine s_nil ?_
      refine p_blkN ?_
      have f84 := (s_l.ext eh78)
      exact p_lpN ⟨i, md73, l0, ⟨rfl, rfl, rfl, rfl, rfl, rfl, rfl, rfl, rfl, rfl⟩, ⟨E79, (sl_eq f84 rfl), (by first | exact ⟨hl0, by omega, by omega, by omega, fun _ => by (rw [show ∀ c : Int, c + 1 - 1 = c from fun c => by omega]; exact hl0 ▸ nF_of (by assumption) (by assumption) (by assumption)), hJ⟩ | exact ⟨hl0, by omega, by omega, by omega, hI, fun _ => hl0 ▸ yF_of (by assumption) (by assumption) (by assumption)⟩)⟩, by omega⟩
    ·
     refine v_exit ?_
     refine p_seqX ?_
     refine p_lpX ?_
     refine p_blkX ?_
     refine p_seqN ?_
     refine v_seq ?_
     refine v_ops ?_
     refine s_pure (.int .i64 (md67 + m)) (fun _ q => q) ?_
     refine s_pure (.int .i64 i) (fun _ q => q) ?_
     refine s_pure (.int .i64 ((md67 + m) - i)) (fun _ q => ArithVC.mk (by omega) q) ?_
     refine s_pure (.int .i64 ((md67 + m) - i)) (fun _ q => q) ?_
     refine s_nil ?_
     refine p_seqN ?_
     refine v_seq ?_
     refine v_seq ?_
     refine v_ops ?_
     refine s_pure (.int .i64 i) (fun _ q => q) ?_
     refine s_pure (.int .i64 m) (fun _ q => q) ?_
     refine s_pure (.bool (decide (i < m))) (fun _ q => q) ?_
     refine s_pure (.bool (decide (i < m))) (fun _ q => q) ?_
     refine s_splitT rfl (fun c85 => ?_) (fun c85 => ?_)
     ·
      refine s_run rfl ?_
      refine s_pure (.int .i64 m) (fun _ q => q) ?_
      refine s_run rfl ?_
      refine s_pure (.int .i64 ((md67 + m) - i)) (fun _ q => q) ?_
      refine s_run rfl ?_
      refine s_pure (.bool (decide (m < ((md67 + m) - i)))) (fun _ q => q) ?_
      refine s_pure (.bool (decide (m < ((md67 + m) - i)))) (fun _ q => q) ?_
      refine s_nil ?_
      refine p_seqN ?_
      refine v_cond rfl (fun c86 => ?_) (fun c86 => ?_)
      ·
       refine v_ops ?_
       refine s_pure v_l (fun _ q => q) ?_
       refine s_pure (.int .i64 i) (fun _ q => q) ?_
       refine s_pure (.int .i64 m) (fun _ q => q) ?_
       refine s_pure (.int .i64 ((md67 + m) - i)) (fun _ q => q) ?_
       refine s_pure (.func (.func 66) #[] #[]) (fun _ q => q) ?_
       refine s_call [v_l, .int .i64 i, .int .i64 m, .int .i64 ((md67 + m) - i), .func (.func 66) #[] #[]] rfl (slices_rotateCmpFunc_impl_Packet_ok v_l l0 i m ((md67 + m) - i) _ s_l (by omega) (by omega) (by omega) (by omega) (by omega)) ?_
       rintro _ h87 ⟨rfl, s88, mh87⟩
       have zh87 := mh87.size
       have E89 := Eh.new mh87 (fun b hb => Or.inl hb)
       refine s_nil ?_
       refine p_seqN ?_
       refine v_seq ?_
       refine v_seq ?_
       refine v_ops ?_
       refine s_pure (.int .i64 a) (fun _ q => q) ?_
       refine s_pure (.int .i64 i) (fun _ q => q) ?_
       refine s_pure (.bool (decide (a < i))) (fun _ q => q) ?_
       refine s_pure (.bool (decide (a < i))) (fun _ q => q) ?_
       refine s_splitT rfl (fun c90 => ?_) (fun c90 => ?_)
       ·
        refine s_run rfl ?_
        refine s_pure (.int .i64 i) (fun _ q => q) ?_
        refine s_run rfl ?_
        refine s_pure (.int .i64 md67) (fun _ q => q) ?_
        refine s_run rfl ?_
        refine s_pure (.bool (decide (i < md67))) (fun _ q => q) ?_
        refine s_pure (.bool (decide (i < md67))) (fun _ q => q) ?_
        refine s_nil ?_
        refine p_seqN ?_
        refine v_cond rfl (fun c91 => ?_) (fun c91 => ?_)
        ·
         refine v_ops ?_
         refine s_pure v_l (fun _ q => q) ?_
         refine s_pure (.int .i64 a) (fun _ q => q) ?_
         refine s_pure (.int .i64 i) (fun _ q => q) ?_
         refine s_pure (.int .i64 md67) (fun _ q => q) ?_
         refine s_pure (.func (.func 66) #[] #[]) (fun _ q => q) ?_
         have sj : SymJ l a m b i md67 := by first | exact sj_hi h0 h1 h2 h3 hA hB hlmd67 humd67 (by omega) hi (by omega) hj hI hJ | exact sj_lo h0 h1 h2 h3 hA hB hlmd67 humd67 (by omega) hi (by omega) hj hI hJ
         have hd96 : (rotL l0 i.toNat m.toNat ((md67 + m) - i).toNat) = rotL l i.toNat m.toNat (md67 + m - i).toNat := (by first | (rw [hl0]; done) | exact hl0.trans (sj.id (by omega)).symm)
         have hlhd96 := sj.len hd96
         refine s_call [v_l, .int .i64 a, .int .i64 i, .int .i64 md67, .func (.func 66) #[] #[]] rfl (ih v_l (rotL l0 i.toNat m.toNat ((md67 + m) - i).toNat) a i md67 _ (by omega) s88 (by omega) (by omega) (by omega) (by omega) (by omega) (sj.p1 hd96) (sj.p2 hd96)) ?_
         rintro _ h92 ⟨rfl, q94, s93, mh92, hp95⟩
         have zh92 := mh92.size
         have hlq94 := hp95.1.len
         have E97 := E89.new mh92 (fun b hb => Or.inl hb)
         refine s_nil ?_
         refine p_seqN ?_
         refine v_seq ?_
         refine v_ops ?_
         refine s_pure (.int .i64 md67) (fun _ q => q) ?_
         refine s_pure (.int .i64 ((md67 + m) - i)) (fun _ q => q) ?_
         refine s_pure (.bool (decide (md67 < ((md67 + m) - i)))) (fun _ q => q) ?_
         refine s_pure (.bool (decide (md67 < ((md67 + m) - i)))) (fun _ q => q) ?_
         refine s_splitT rfl (fun c98 => ?_) (fun c98 => ?_)
         ·
          refine s_run rfl ?_
          refine s_pure (.int .i64 ((md67 + m) - i)) (fun _ q => q) ?_
          refine s_run rfl ?_
          refine s_pure (.int .i64 b) (fun _ q => q) ?_
          refine s_run rfl ?_
          refine s_pure (.bool (decide (((md67 + m) - i) < b))) (fun _ q => q) ?_
          refine s_pure (.bool (decide (((md67 + m) - i) < b))) (fun _ q => q) ?_
          refine s_nil ?_
          refine p_seqN ?_
          refine v_cond rfl (fun c99 => ?_) (fun c99 => ?_)
          ·
           refine v_ops ?_
           refine s_pure v_l (fun _ q => q) ?_
           refine s_pure (.int .i64 md67) (fun _ q => q) ?_
           refine s_pure (.int .i64 ((md67 + m) - i)) (fun _ q => q) ?_
           refine s_pure (.int .i64 b) (fun _ q => q) ?_
           refine s_pure (.func (.func 66) #[] #[]) (fun _ q => q) ?_
           refine s_call [v_l, .int .i64 md67, .int .i64 ((md67 + m) - i), .int .i64 b, .func (.func 66) #[] #[]] rfl (ih v_l q94 md67 ((md67 + m) - i) b _ (by omega) s93 (by omega) (by omega) (by omega) (by omega) (by omega) (sj.p3 hd96 hp95.1) (sj.p4 hd96 hp95.1)) ?_
           rintro _ h100 ⟨rfl, q102, s101, mh100, hp103⟩
           have zh100 := mh100.size
           have hlq102 := hp103.1.len
           have E104 := E97.new mh100 (fun b hb => Or.inl hb)
           refine s_nil ?_
           refine p_end [] (.tuple #[]) (fun _ q => q) rfl ?_
           have hz := sj.fin hd96 hp95 hp103
           exact ⟨rfl, q102, s101, E104, hz⟩
          ·
           refine v_skip ?_
           refine p_end [] (.tuple #[]) (fun _ q => q) rfl ?_
           have hz := sj.fin hd96 hp95 (sj.no2 hd96 hp95.1 (by omega))
           exact ⟨rfl, q94, s93, E97, hz⟩
         ·
          refine s_pass rfl ?_
          refine s_pass rfl ?_
          refine s_pass rfl ?_
          refine s_pure (.bool false) (fun _ q => q) ?_
          refine s_nil ?_
          refine p_seqN ?_
          refine v_condN rfl (by simp) ?_
          refine v_skip ?_
          refine p_end [] (.tuple #[]) (fun _ q => q) rfl ?_
          have hz := sj.fin hd96 hp95 (sj.no2 hd96 hp95.1 (by omega))
          exact ⟨rfl, q94, s93, E97, hz⟩
        ·
         refine v_skip ?_
         refine p_seqN ?_
         refine v_seq ?_
         refine v_ops ?_
         refine s_pure (.int .i64 md67) (fun _ q => q) ?_
         refine s_pure (.int .i64 ((md67 + m) - i)) (fun _ q => q) ?_
         refine s_pure (.bool (decide (md67 < ((md67 + m) - i)))) (fun _ q => q) ?_
         refine s_pure (.bool (decide (md67 < ((md67 + m) - i)))) (fun _ q => q) ?_
         refine s_splitT rfl (fun c105 => ?_) (fun c105 => ?_)
         ·
          refine s_run rfl ?_
          refine s_pure (.int .i64 ((md67 + m) - i)) (fun _ q => q) ?_
          refine s_run rfl ?_
          refine s_pure (.int .i64 b) (fun _ q => q) ?_
          refine s_run rfl ?_
          refine s_pure (.bool (decide (((md67 + m) - i) < b))) (fun _ q => q) ?_
          refine s_pure (.bool (decide (((md67 + m) - i) < b))) (fun _ q => q) ?_
          refine s_nil ?_
          refine p_seqN ?_
          refine v_cond rfl (fun c106 => ?_) (fun c106 => ?_)
          ·
           refine v_ops ?_
           refine s_pure v_l (fun _ q => q) ?_
           refine s_pure (.int .i64 md67) (fun _ q => q) ?_
           refine s_pure (.int .i64 ((md67 + m) - i)) (fun _ q => q) ?_
           refine s_pure (.int .i64 b) (fun _ q => q) ?_
           refine s_pure (.func (.func 66) #[] #[]) (fun _ q => q) ?_
           have sj : SymJ l a m b i md67 := by first | exact sj_hi h0 h1 h2 h3 hA hB hlmd67 humd67 (by omega) hi (by omega) hj hI hJ | exact sj_lo h0 h1 h2 h3 hA hB hlmd67 humd67 (by omega) hi (by omega) hj hI hJ
           have hd111 : (rotL l0 i.toNat m.toNat ((md67 + m) - i).toNat) = rotL l i.toNat m.toNat (md67 + m - i).toNat := (by first | (rw [hl0]; done) | exact hl0.trans (sj.id (by omega)).symm)
           have hlhd111 := sj.len hd111
           refine s_call [v_l, .int .i64 md67, .int .i64 ((md67 + m) - i), .int .i64 b, .func (.func 66) #[] #[]] rfl (ih v_l (rotL l0 i.toNat m.toNat ((md67 + m) - i).toNat) md67 ((md67 + m) - i) b _ (by omega) s88 (by omega) (by omega) (by omega) (by omega) (by omega) (sj.p3 hd111 (Like.refl _ _ _)) (sj.p4 hd111 (Like.refl _ _ _))) ?_
           rintro _ h107 ⟨rfl, q109, s108, mh107, hp110⟩
           have zh107 := mh107.size
           have hlq109 := hp110.1.len
           have E112 := E89.new mh107 (fun b hb => Or.inl hb)
           refine s_nil ?_
           refine p_end [] (.tuple #[]) (fun _ q => q) rfl ?_
           have hz := sj.fin hd111 (sj.no1 hd111 (by omega)) hp110
           exact ⟨rfl, q109, s108, E112, hz⟩
          ·
           refine v_skip ?_
           refine p_end [] (.tuple #[]) (fun _ q => q) rfl ?_
           have sj : SymJ l a m b i md67 := by first | exact sj_hi h0 h1 h2 h3 hA hB hlmd67 humd67 (by omega) hi (by omega) hj hI hJ | exact sj_lo h0 h1 h2 h3 hA hB hlmd67 humd67 (by omega) hi (by omega) hj hI hJ
           have hd : (rotL l0 i.toNat m.toNat ((md67 + m) - i).toNat) = rotL l i.toNat m.toNat (md67 + m - i).toNat := (by first | (rw [hl0]; done) | exact hl0.trans (sj.id (by omega)).symm)
           have hz := sj.fin hd (sj.no1 hd (by omega)) (sj.no2 hd (sj.no1 hd (by omega)).1 (by omega))
           exact ⟨rfl, (rotL l0 i.toNat m.toNat ((md67 + m) - i).toNat), s88, E89, hz⟩
         ·
          refine s_pass rfl ?_
          refine s_pass rfl ?_
          refine s_pass rfl ?_
          refine s_pure (.bool false) (fun _ q => q) ?_
          refine s_nil ?_
          refine p_seqN ?_
          refine v_condN rfl (by simp) ?_
          refine v_skip ?_
          refine p_end [] (.tuple #[]) (fun _ q => q) rfl ?_
          have sj : SymJ l a m b i md67 := by first | exact sj_hi h0 h1 h2 h3 hA hB hlmd67 humd67 (by omega) hi (by omega) hj hI hJ | exact sj_lo h0 h1 h2 h3 hA hB hlmd67 humd67 (by omega) hi (by omega) hj hI hJ
          have hd : (rotL l0 i.toNat m.toNat ((md67 + m) - i).toNat) = rotL l i.toNat m.toNat (md67 + m - i).toNat := (by first | (rw [hl0]; done) | exact hl0.trans (sj.id (by omega)).symm)
          have hz := sj.fin hd (sj.no1 hd (by omega)) (sj.no2 hd (sj.no1 hd (by omega)).1 (by omega))
          exact ⟨rfl, (rotL l0 i.toNat m.toNat ((md67 + m) - i).toNat), s88, E89, hz⟩
       ·
        refine s_pass rfl ?_
        refine s_pass rfl ?_
        refine s_pass rfl ?_
        refine s_pure (.bool false) (fun _ q => q) ?_
        refine s_nil ?_
        refine p_seqN ?_
        refine v_condN rfl (by simp) ?_
        refine v_skip ?_
        refine p_seqN ?_
        refine v_seq ?_
        refine v_ops ?_
        refine s_pure (.int .i64 md67) (fun _ q => q) ?_
        refine s_pure (.int .i64 ((md67 + m) - i)) (fun _ q => q) ?_
        refine s_pure (.bool (decide (md67 < ((md67 + m) - i)))) (fun _ q => q) ?_
        refine s_pure (.bool (decide (md67 < ((md67 + m) - i)))) (fun _ q => q) ?_
        refine s_splitT rfl (fun c113 => ?_) (fun c113 => ?_)
        ·
         refine s_run rfl ?_
         refine s_pure (.int .i64 ((md67 + m) - i)) (fun _ q => q) ?_
         refine s_run rfl ?_
         refine s_pure (.int .i64 b) (fun _ q => q) ?_
         refine s_run rfl ?_
         refine s_pure (.bool (decide (((md67 + m) - i) < b))) (fun _ q => q) ?_
         refine s_pure (.bool (decide (((md67 + m) - i) < b))) (fun _ q => q) ?_
         refine s_nil ?_
         refine p_seqN ?_
         refine v_cond rfl (fun c114 => ?_) (fun c114 => ?_)
         ·
          refine v_ops ?_
          refine s_pure v_l (fun _ q => q) ?_
          refine s_pure (.int .i64 md67) (fun _ q => q) ?_
          refine s_pure (.int .i64 ((md67 + m) - i)) (fun _ q => q) ?_
          refine s_pure (.int .i64 b) (fun _ q => q) ?_
          refine s_pure (.func (.func 66) #[] #[]) (fun _ q => q) ?_
          have sj : SymJ l a m b i md67 := by first | exact sj_hi h0 h1 h2 h3 hA hB hlmd67 humd67 (by omega) hi (by omega) hj hI hJ | exact sj_lo h0 h1 h2 h3 hA hB hlmd67 humd67 (by omega) hi (by omega) hj hI hJ
          have hd119 : (rotL l0 i.toNat m.toNat ((md67 + m) - i).toNat) = rotL l i.toNat m.toNat (md67 + m - i).toNat := (by first | (rw [hl0]; done) | exact hl0.trans (sj.id (by omega)).symm)
          have hlhd119 := sj.len hd119
          refine s_call [v_l, .int .i64 md67, .int .i64 ((md67 + m) - i), .int .i64 b, .func (.func 66) #[] #[]] rfl (ih v_l (rotL l0 i.toNat m.toNat ((md67 + m) - i).toNat) md67 ((md67 + m) - i) b _ (by omega) s88 (by omega) (by omega) (by omega) (by omega) (by omega) (sj.p3 hd119 (Like.refl _ _ _)) (sj.p4 hd119 (Like.refl _ _ _))) ?_
          rintro _ h115 ⟨rfl, q117, s116, mh115, hp118⟩
          have zh115 := mh115.size
          have hlq117 := hp118.1.len
          have E120 := E89.new mh115 (fun b hb => Or.inl hb)
          refine s_nil ?_
          refine p_end [] (.tuple #[]) (fun _ q => q) rfl ?_
          have hz := sj.fin hd119 (sj.no1 hd119 (by omega)) hp118
          exact ⟨rfl, q117, s116, E120, hz⟩
         ·
          refine v_skip ?_
          refine p_end [] (.tuple #[]) (fun _ q => q) rfl ?_
          have sj : SymJ l a m b i md67 := by first | exact sj_hi h0 h1 h2 h3 hA hB hlmd67 humd67 (by omega) hi (by omega) hj hI hJ | exact sj_lo h0 h1 h2 h3 hA hB hlmd67 humd67 (by omega) hi (by omega) hj hI hJ
          have hd : (rotL l0 i.toNat m.toNat ((md67 + m) - i).toNat) = rotL l i.toNat m.toNat (md67 + m - i).toNat := (by first | (rw [hl0]; done) | exact hl0.trans (sj.id (by omega)).symm)
          have hz := sj.fin hd (sj.no1 hd (by omega)) (sj.no2 hd (sj.no1 hd (by omega)).1 (by omega))
          exact ⟨rfl, (rotL l0 i.toNat m.toNat ((md67 + m) - i).toNat), s88, E89, hz⟩
        ·
         refine s_pass rfl ?_
         refine s_pass rfl ?_
         refine s_pass rfl ?_
         refine s_pure (.bool false) (fun _ q => q) ?_
         refine s_nil ?_
         refine p_seqN ?_
         refine v_condN rfl (by simp) ?_
         refine v_skip ?_
         refine p_end [] (.tuple #[]) (fun _ q => q) rfl ?_
         have sj : SymJ l a m b i md67 := by first | exact sj_hi h0 h1 h2 h3 hA hB hlmd67 humd67 (by omega) hi (by omega) hj hI hJ | exact sj_lo h0 h1 h2 h3 hA hB hlmd67 humd67 (by omega) hi (by omega) hj hI hJ
         have hd : (rotL l0 i.toNat m.toNat ((md67 + m) - i).toNat) = rotL l i.toNat m.toNat (md67 + m - i).toNat := (by first | (rw [hl0]; done) | exact hl0.trans (sj.id (by omega)).symm)
         have hz := sj.fin hd (sj.no1 hd (by omega)) (sj.no2 hd (sj.no1 hd (by omega)).1 (by omega))
         exact ⟨rfl, (rotL l0 i.toNat m.toNat ((md67 + m) - i).toNat), s88, E89, hz⟩
      ·
       refine v_skip ?_
       refine p_seqN ?_
       refine v_seq ?_
       refine v_seq ?_
       refine v_ops ?_
       refine s_pure (.int .i64 a) (fun _ q => q) ?_
       refine s_pure (.int .i64 i) (fun _ q => q) ?_
       refine s_pure (.bool (decide (a < i))) (fun _ q => q) ?_
       refine s_pure (.bool (decide (a < i))) (fun _ q => q) ?_
       refine s_splitT rfl (fun c121 => ?_) (fun c121 => ?_)
       ·
        refine s_run rfl ?_
        refine s_pure (.int .i64 i) (fun _ q => q) ?_
        refine s_run rfl ?_
        refine s_pure (.int .i64 md67) (fun _ q => q) ?_
        refine s_run rfl ?_
        refine s_pure (.bool (decide (i < md67))) (fun _ q => q) ?_
        refine s_pure (.bool (decide (i < md67))) (fun _ q => q) ?_
        refine s_nil ?_
        refine p_seqN ?_
        refine v_cond rfl (fun c122 => ?_) (fun c122 => ?_)
        ·
         refine v_ops ?_
         refine s_pure v_l (fun _ q => q) ?_
         refine s_pure (.int .i64 a) (fun _ q => q) ?_
         refine s_pure (.int .i64 i) (fun _ q => q) ?_
         refine s_pure (.int .i64 md67) (fun _ q => q) ?_
         refine s_pure (.func (.func 66) #[] #[]) (fun _ q => q) ?_
         have sj : SymJ l a m b i md67 := by first | exact sj_hi h0 h1 h2 h3 hA hB hlmd67 humd67 (by omega) hi (by omega) hj hI hJ | exact sj_lo h0 h1 h2 h3 hA hB hlmd67 humd67 (by omega) hi (by omega) hj hI hJ
         have hd127 : l0 = rotL l i.toNat m.toNat (md67 + m - i).toNat := (by first | (rw [hl0]; done) | exact hl0.trans (sj.id (by omega)).symm)
         have hlhd127 := sj.len hd127
         refine s_call [v_l, .int .i64 a, .int .i64 i, .int .i64 md67, .func (.func 66) #[] #[]] rfl (ih v_l l0 a i md67 _ (by omega) s_l (by omega) (by omega) (by omega) (by omega) (by omega) (sj.p1 hd127) (sj.p2 hd127)) ?_
         rintro _ h123 ⟨rfl, q125, s124, mh123, hp126⟩
         have zh123 := mh123.size
         have hlq125 := hp126.1.len
         have E128 := Eh.new mh123 (fun b hb => Or.inl hb)
         refine s_nil ?_
         refine p_seqN ?_
         refine v_seq ?_
         refine v_ops ?_
         refine s_pure (.int .i64 md67) (fun _ q => q) ?_
         refine s_pure (.int .i64 ((md67 + m) - i)) (fun _ q => q) ?_
         refine s_pure (.bool (decide (md67 < ((md67 + m) - i)))) (fun _ q => q) ?_
         refine s_pure (.bool (decide (md67 < ((md67 + m) - i)))) (fun _ q => q) ?_
         refine s_splitT rfl (fun c129 => ?_) (fun c129 => ?_)
         ·
          refine s_run rfl ?_
          refine s_pure (.int .i64 ((md67 + m) - i)) (fun _ q => q) ?_
          refine s_run rfl ?_
          refine s_pure (.int .i64 b) (fun _ q => q) ?_
          refine s_run rfl ?_
          refine s_pure (.bool (decide (((md67 + m) - i) < b))) (fun _ q => q) ?_
          refine s_pure (.bool (decide (((md67 + m) - i) < b))) (fun _ q => q) ?_
          refine s_nil ?_
          refine p_seqN ?_
          refine v_cond rfl (fun c130 => ?_) (fun c130 => ?_)
          ·
           refine v_ops ?_
           refine s_pure v_l (fun _ q => q) ?_
           refine s_pure (.int .i64 md67) (fun _ q => q) ?_
           refine s_pure (.int .i64 ((md67 + m) - i)) (fun _ q => q) ?_
           refine s_pure (.int .i64 b) (fun _ q => q) ?_
           refine s_pure (.func (.func 66) #[] #[]) (fun _ q => q) ?_
           refine s_call [v_l, .int .i64 md67, .int .i64 ((md67 + m) - i), .int .i64 b, .func (.func 66) #[] #[]] rfl (ih v_l q125 md67 ((md67 + m) - i) b _ (by omega) s124 (by omega) (by omega) (by omega) (by omega) (by omega) (sj.p3 hd127 hp126.1) (sj.p4 hd127 hp126.1)) ?_
           rintro _ h131 ⟨rfl, q133, s132, mh131, hp134⟩
           have zh131 := mh131.size
           have hlq133 := hp134.1.len
           have E135 := E128.new mh131 (fun b hb => Or.inl hb)
           refine s_nil ?_
           refine p_end [] (.tuple #[]) (fun _ q => q) rfl ?_
           have hz := sj.fin hd127 hp126 hp134
           exact ⟨rfl, q133, s132, E135, hz⟩
          ·
           refine v_skip ?_
           refine p_end [] (.tuple #[]) (fun _ q => q) rfl ?_
           have hz := sj.fin hd127 hp126 (sj.no2 hd127 hp126.1 (by omega))
           exact ⟨rfl, q125, s124, E128, hz⟩
         ·
          refine s_pass rfl ?_
          refine s_pass rfl ?_
          refine s_pass rfl ?_
          refine s_pure (.bool false) (fun _ q => q) ?_
          refine s_nil ?_
          refine p_seqN ?_
          refine v_condN rfl (by simp) ?_
          refine v_skip ?_
          refine p_end [] (.tuple #[]) (fun _ q => q) rfl ?_
          have hz := sj.fin hd127 hp126 (sj.no2 hd127 hp126.1 (by omega))
          exact ⟨rfl, q125, s124, E128, hz⟩
        ·
         refine v_skip ?_
         refine p_seqN ?_
         refine v_seq ?_
         refine v_ops ?_
         refine s_pure (.int .i64 md67) (fun _ q => q) ?_
         refine s_pure (.int .i64 ((md67 + m) - i)) (fun _ q => q) ?_
         refine s_pure (.bool (decide (md67 < ((md67 + m) - i)))) (fun _ q => q) ?_
         refine s_pure (.bool (decide (md67 < ((md67 + m) - i)))) (fun _ q => q) ?_
         refine s_splitT rfl (fun c136 => ?_) (fun c136 => ?_)
         ·
          refine s_run rfl ?_
          refine s_pure (.int .i64 ((md67 + m) - i)) (fun _ q => q) ?_
          refine s_run rfl ?_
          refine s_pure (.int .i64 b) (fun _ q => q) ?_
          refine s_run rfl ?_
          refine s_pure (.bool (decide (((md67 + m) - i) < b))) (fun _ q => q) ?_
          refine s_pure (.bool (decide (((md67 + m) - i) < b))) (fun _ q => q) ?_
          refine s_nil ?_
          refine p_seqN ?_
          refine v_cond rfl (fun c137 => ?_) (fun c137 => ?_)
          ·
           refine v_ops ?_
           refine s_pure v_l (fun _ q => q) ?_
           refine s_pure (.int .i64 md67) (fun _ q => q) ?_
           refine s_pure (.int .i64 ((md67 + m) - i)) (fun _ q => q) ?_
           refine s_pure (.int .i64 b) (fun _ q => q) ?_
           refine s_pure (.func (.func 66) #[] #[]) (fun _ q => q) ?_
           have sj : SymJ l a m b i md67 := by first | exact sj_hi h0 h1 h2 h3 hA hB hlmd67 humd67 (by omega) hi (by omega) hj hI hJ | exact sj_lo h0 h1 h2 h3 hA hB hlmd67 humd67 (by omega) hi (by omega) hj hI hJ
           have hd142 : l0 = rotL l i.toNat m.toNat (md67 + m - i).toNat := (by first | (rw [hl0]; done) | exact hl0.trans (sj.id (by omega)).symm)
           have hlhd142 := sj.len hd142
           refine s_call [v_l, .int .i64 md67, .int .i64 ((md67 + m) - i), .int .i64 b, .func (.func 66) #[] #[]] rfl (ih v_l l0 md67 ((md67 + m) - i) b _ (by omega) s_l (by omega) (by omega) (by omega) (by omega) (by omega) (sj.p3 hd142 (Like.refl _ _ _)) (sj.p4 hd142 (Like.refl _ _ _))) ?_
           rintro _ h138 ⟨rfl, q140, s139, mh138, hp141⟩
           have zh138 := mh138.size
           have hlq140 := hp141.1.len
           have E143 := Eh.new mh138 (fun b hb => Or.inl hb)
           refine s_nil ?_
           refine p_end [] (.tuple #[]) (fun _ q => q) rfl ?_
           have hz := sj.fin hd142 (sj.no1 hd142 (by omega)) hp141
           exact ⟨rfl, q140, s139, E143, hz⟩
          ·
           refine v_skip ?_
           refine p_end [] (.tuple #[]) (fun _ q => q) rfl ?_
           have sj : SymJ l a m b i md67 := by first | exact sj_hi h0 h1 h2 h3 hA hB hlmd67 humd67 (by omega) hi (by omega) hj hI hJ | exact sj_lo h0 h1 h2 h3 hA hB hlmd67 humd67 (by omega) hi (by omega) hj hI hJ
           have hd : l0 = rotL l i.toNat m.toNat (md67 + m - i).toNat := (by first | (rw [hl0]; done) | exact hl0.trans (sj.id (by omega)).symm)
           have hz := sj.fin hd (sj.no1 hd (by omega)) (sj.no2 hd (sj.no1 hd (by omega)).1 (by omega))
           exact ⟨rfl, l0, s_l, Eh, hz⟩
         ·
          refine s_pass rfl ?_
          refine s_pass rfl ?_
          refine s_pass rfl ?_
          refine s_pure (.bool false) (fun _ q => q) ?_
          refine s_nil ?_
          refine p_seqN ?_
          refine v_condN rfl (by simp) ?_
          refine v_skip ?_
          refine p_end [] (.tuple #[]) (fun _ q => q) rfl ?_
          have sj : SymJ l a m b i md67 := by first | exact sj_hi h0 h1 h2 h3 hA hB hlmd67 humd67 (by omega) hi (by omega) hj hI hJ | exact sj_lo h0 h1 h2 h3 hA hB hlmd67 humd67 (by omega) hi (by omega) hj hI hJ
          have hd : l0 = rotL l i.toNat m.toNat (md67 + m - i).toNat := (by first | (rw [hl0]; done) | exact hl0.trans (sj.id (by omega)).symm)
          have hz := sj.fin hd (sj.no1 hd (by omega)) (sj.no2 hd (sj.no1 hd (by omega)).1 (by omega))
          exact ⟨rfl, l0, s_l, Eh, hz⟩
       ·
        refine s_pass rfl ?_
        refine s_pass rfl ?_
        refine s_pass rfl ?_
        refine s_pure (.bool false) (fun _ q => q) ?_
        refine s_nil ?_
        refine p_seqN ?_
        refine v_condN rfl (by simp) ?_
        refine v_skip ?_
        refine p_seqN ?_
        refine v_seq ?_
        refine v_ops ?_
        refine s_pure (.int .i64 md67) (fun _ q => q) ?_
        refine s_pure (.int .i64 ((md67 + m) - i)) (fun _ q => q) ?_
        refine s_pure (.bool (decide (md67 < ((md67 + m) - i)))) (fun _ q => q) ?_
        refine s_pure (.bool (decide (md67 < ((md67 + m) - i)))) (fun _ q => q) ?_
        refine s_splitT rfl (fun c144 => ?_) (fun c144 => ?_)
        ·
         refine s_run rfl ?_
         refine s_pure (.int .i64 ((md67 + m) - i)) (fun _ q => q) ?_
         refine s_run rfl ?_
         refine s_pure (.int .i64 b) (fun _ q => q) ?_
         refine s_run rfl ?_
         refine s_pure (.bool (decide (((md67 + m) - i) < b))) (fun _ q => q) ?_
         refine s_pure (.bool (decide (((md67 + m) - i) < b))) (fun _ q => q) ?_
         refine s_nil ?_
         refine p_seqN ?_
         refine v_cond rfl (fun c145 => ?_) (fun c145 => ?_)
         ·
          refine v_ops ?_
          refine s_pure v_l (fun _ q => q) ?_
          refine s_pure (.int .i64 md67) (fun _ q => q) ?_
          refine s_pure (.int .i64 ((md67 + m) - i)) (fun _ q => q) ?_
          refine s_pure (.int .i64 b) (fun _ q => q) ?_
          refine s_pure (.func (.func 66) #[] #[]) (fun _ q => q) ?_
          have sj : SymJ l a m b i md67 := by first | exact sj_hi h0 h1 h2 h3 hA hB hlmd67 humd67 (by omega) hi (by omega) hj hI hJ | exact sj_lo h0 h1 h2 h3 hA hB hlmd67 humd67 (by omega) hi (by omega) hj hI hJ
          have hd150 : l0 = rotL l i.toNat m.toNat (md67 + m - i).toNat := (by first | (rw [hl0]; done) | exact hl0.trans (sj.id (by omega)).symm)
          have hlhd150 := sj.len hd150
          refine s_call [v_l, .int .i64 md67, .int .i64 ((md67 + m) - i), .int .i64 b, .func (.func 66) #[] #[]] rfl (ih v_l l0 md67 ((md67 + m) - i) b _ (by omega) s_l (by omega) (by omega) (by omega) (by omega) (by omega) (sj.p3 hd150 (Like.refl _ _ _)) (sj.p4 hd150 (Like.refl _ _ _))) ?_
          rintro _ h146 ⟨rfl, q148, s147, mh146, hp149⟩
          have zh146 := mh146.size
          have hlq148 := hp149.1.len
          have E151 := Eh.new mh146 (fun b hb => Or.inl hb)
          refine s_nil ?_
          refine p_end [] (.tuple #[]) (fun _ q => q) rfl ?_
          have hz := sj.fin hd150 (sj.no1 hd150 (by omega)) hp149
          exact ⟨rfl, q148, s147, E151, hz⟩
         ·
          refine v_skip ?_
          refine p_end [] (.tuple #[]) (fun _ q => q) rfl ?_
          have sj : SymJ l a m b i md67 := by first | exact sj_hi h0 h1 h2 h3 hA hB hlmd67 humd67 (by omega) hi (by omega) hj hI hJ | exact sj_lo h0 h1 h2 h3 hA hB hlmd67 humd67 (by omega) hi (by omega) hj hI hJ
          have hd : l0 = rotL l i.toNat m.toNat (md67 + m - i).toNat := (by first | (rw [hl0]; done) | exact hl0.trans (sj.id (by omega)).symm)
          have hz := sj.fin hd (sj.no1 hd (by omega)) (sj.no2 hd (sj.no1 hd (by omega)).1 (by omega))
          exact ⟨rfl, l0, s_l, Eh, hz⟩
        ·
         refine s_pass rfl ?_
         refine s_pass rfl ?_
         refine s_pass rfl ?_
         refine s_pure (.bool false) (fun _ q => q) ?_
         refine s_nil ?_
         refine p_seqN ?_
         refine v_condN rfl (by simp) ?_
         refine v_skip ?_
         refine p_end [] (.tuple #[]) (fun _ q => q) rfl ?_
         have sj : SymJ l a m b i md67 := by first | exact sj_hi h0 h1 h2 h3 hA hB hlmd67 humd67 (by omega) hi (by omega) hj hI hJ | exact sj_lo h0 h1 h2 h3 hA hB hlmd67 humd67 (by omega) hi (by omega) hj hI hJ
         have hd : l0 = rotL l i.toNat m.toNat (md67 + m - i).toNat := (by first | (rw [hl0]; done) | exact hl0.trans (sj.id (by omega)).symm)
         have hz := sj.fin hd (sj.no1 hd (by omega)) (sj.no2 hd (sj.no1 hd (by omega)).1 (by omega))
         exact ⟨rfl, l0, s_l, Eh, hz⟩
     ·
      refine s_pass rfl ?_
      refine s_pass rfl ?_
      refine s_pass rfl ?_
      refine s_pure (.bool false) (fun _ q => q) ?_
      refine s_nil ?_
      refine p_seqN ?_
      refine v_condN rfl (by simp) ?_
      refine v_skip ?_
      refine p_seqN ?_
      refine v_seq ?_
      refine v_seq ?_
      refine v_ops ?_
      refine s_pure (.int .i64 a) (fun _ q => q) ?_
      refine s_pure (.int .i64 i) (fun _ q => q) ?_
      refine s_pure (.bool (decide (a < i))) (fun _ q => q) ?_
      refine s_pure (.bool (decide (a < i))) (fun _ q => q) ?_
      refine s_splitT rfl (fun c152 => ?_) (fun c152 => ?_)
      ·
       refine s_run rfl ?_
       refine s_pure (.int .i64 i) (fun _ q => q) ?_
       refine s_run rfl ?_
       refine s_pure (.int .i64 md67) (fun _ q => q) ?_
       refine s_run rfl ?_
       refine s_pure (.bool (decide (i < md67))) (fun _ q => q) ?_
       refine s_pure (.bool (decide (i < md67))) (fun _ q => q) ?_
       refine s_nil ?_
       refine p_seqN ?_
       refine v_cond rfl (fun c153 => ?_) (fun c153 => ?_)
       ·
        refine v_ops ?_
        refine s_pure v_l (fun _ q => q) ?_
        refine s_pure (.int .i64 a) (fun _ q => q) ?_
        refine s_pure (.int .i64 i) (fun _ q => q) ?_
        refine s_pure (.int .i64 md67) (fun _ q => q) ?_
        refine s_pure (.func (.func 66) #[] #[]) (fun _ q => q) ?_
        have sj : SymJ l a m b i md67 := by first | exact sj_hi h0 h1 h2 h3 hA hB hlmd67 humd67 (by omega) hi (by omega) hj hI hJ | exact sj_lo h0 h1 h2 h3 hA hB hlmd67 humd67 (by omega) hi (by omega) hj hI hJ
        have hd158 : l0 = rotL l i.toNat m.toNat (md67 + m - i).toNat := (by first | (rw [hl0]; done) | exact hl0.trans (sj.id (by omega)).symm)
        have hlhd158 := sj.len hd158
        refine s_call [v_l, .int .i64 a, .int .i64 i, .int .i64 md67, .func (.func 66) #[] #[]] rfl (ih v_l l0 a i md67 _ (by omega) s_l (by omega) (by omega) (by omega) (by omega) (by omega) (sj.p1 hd158) (sj.p2 hd158)) ?_
        rintro _ h154 ⟨rfl, q156, s155, mh154, hp157⟩
        have zh154 := mh154.size
        have hlq156 := hp157.1.len
        have E159 := Eh.new mh154 (fun b hb => Or.inl hb)
        refine s_nil ?_
        refine p_seqN ?_
        refine v_seq ?_
        refine v_ops ?_
        refine s_pure (.int .i64 md67) (fun _ q => q) ?_
        refine s_pure (.int .i64 ((md67 + m) - i)) (fun _ q => q) ?_
        refine s_pure (.bool (decide (md67 < ((md67 + m) - i)))) (fun _ q => q) ?_
        refine s_pure (.bool (decide (md67 < ((md67 + m) - i)))) (fun _ q => q) ?_
        refine s_splitT rfl (fun c160 => ?_) (fun c160 => ?_)
        ·
         refine s_run rfl ?_
         refine s_pure (.int .i64 ((md67 + m) - i)) (fun _ q => q) ?_
         refine s_run rfl ?_
         refine s_pure (.int .i64 b) (fun _ q => q) ?_
         refine s_run rfl ?_
         refine s_pure (.bool (decide (((md67 + m) - i) < b))) (fun _ q => q) ?_
         refine s_pure (.bool (decide (((md67 + m) - i) < b))) (fun _ q => q) ?_
         refine s_nil ?_
         refine p_seqN ?_
         refine v_cond rfl (fun c161 => ?_) (fun c161 => ?_)
         ·
          refine v_ops ?_
          refine s_pure v_l (fun _ q => q) ?_
          refine s_pure (.int .i64 md67) (fun _ q => q) ?_
          refine s_pure (.int .i64 ((md67 + m) - i)) (fun _ q => q) ?_
          refine s_pure (.int .i64 b) (fun _ q => q) ?_
          refine s_pure (.func (.func 66) #[] #[]) (fun _ q => q) ?_
          refine s_call [v_l, .int .i64 md67, .int .i64 ((md67 + m) - i), .int .i64 b, .func (.func 66) #[] #[]] rfl (ih v_l q156 md67 ((md67 + m) - i) b _ (by omega) s155 (by omega) (by omega) (by omega) (by omega) (by omega) (sj.p3 hd158 hp157.1) (sj.p4 hd158 hp157.1)) ?_
          rintro _ h162 ⟨rfl, q164, s163, mh162, hp165⟩
          have zh162 := mh162.size
          have hlq164 := hp165.1.len
          have E166 := E159.new mh162 (fun b hb => Or.inl hb)
          refine s_nil ?_
          refine p_end [] (.tuple #[]) (fun _ q => q) rfl ?_
          have hz := sj.fin hd158 hp157 hp165
          exact ⟨rfl, q164, s163, E166, hz⟩
         ·
          refine v_skip ?_
          refine p_end [] (.tuple #[]) (fun _ q => q) rfl ?_
          have hz := sj.fin hd158 hp157 (sj.no2 hd158 hp157.1 (by omega))
          exact ⟨rfl, q156, s155, E159, hz⟩
        ·
         refine s_pass rfl ?_
         refine s_pass rfl ?_
         refine s_pass rfl ?_
         refine s_pure (.bool false) (fun _ q => q) ?_
         refine s_nil ?_
         refine p_seqN ?_
         refine v_condN rfl (by simp) ?_
         refine v_skip ?_
         refine p_end [] (.tuple #[]) (fun _ q => q) rfl ?_
         have hz := sj.fin hd158 hp157 (sj.no2 hd158 hp157.1 (by omega))
         exact ⟨rfl, q156, s155, E159, hz⟩
       ·
        refine v_skip ?_
        refine p_seqN ?_
        refine v_seq ?_
        refine v_ops ?_
        refine s_pure (.int .i64 md67) (fun _ q => q) ?_
        refine s_pure (.int .i64 ((md67 + m) - i)) (fun _ q => q) ?_
        refine s_pure (.bool (decide (md67 < ((md67 + m) - i)))) (fun _ q => q) ?_
        refine s_pure (.bool (decide (md67 < ((md67 + m) - i)))) (fun _ q => q) ?_
        refine s_splitT rfl (fun c167 => ?_) (fun c167 => ?_)
        ·
         refine s_run rfl ?_
         refine s_pure (.int .i64 ((md67 + m) - i)) (fun _ q => q) ?_
         refine s_run rfl ?_
         refine s_pure (.int .i64 b) (fun _ q => q) ?_
         refine s_run rfl ?_
         refine s_pure (.bool (decide (((md67 + m) - i) < b))) (fun _ q => q) ?_
         refine s_pure (.bool (decide (((md67 + m) - i) < b))) (fun _ q => q) ?_
         refine s_nil ?_
         refine p_seqN ?_
         refine v_cond rfl (fun c168 => ?_) (fun c168 => ?_)
         ·
          refine v_ops ?_
          refine s_pure v_l (fun _ q => q) ?_
          refine s_pure (.int .i64 md67) (fun _ q => q) ?_
          refine s_pure (.int .i64 ((md67 + m) - i)) (fun _ q => q) ?_
          refine s_pure (.int .i64 b) (fun _ q => q) ?_
          refine s_pure (.func (.func 66) #[] #[]) (fun _ q => q) ?_
          have sj : SymJ l a m b i md67 := by first | exact sj_hi h0 h1 h2 h3 hA hB hlmd67 humd67 (by omega) hi (by omega) hj hI hJ | exact sj_lo h0 h1 h2 h3 hA hB hlmd67 humd67 (by omega) hi (by omega) hj hI hJ
          have hd173 : l0 = rotL l i.toNat m.toNat (md67 + m - i).toNat := (by first | (rw [hl0]; done) | exact hl0.trans (sj.id (by omega)).symm)
          have hlhd173 := sj.len hd173
          refine s_call [v_l, .int .i64 md67, .int .i64 ((md67 + m) - i), .int .i64 b, .func (.func 66) #[] #[]] rfl (ih v_l l0 md67 ((md67 + m) - i) b _ (by omega) s_l (by omega) (by omega) (by omega) (by omega) (by omega) (sj.p3 hd173 (Like.refl _ _ _)) (sj.p4 hd173 (Like.refl _ _ _))) ?_
          rintro _ h169 ⟨rfl, q171, s170, mh169, hp172⟩
          have zh169 := mh169.size
          have hlq171 := hp172.1.len
          have E174 := Eh.new mh169 (fun b hb => Or.inl hb)
          refine s_nil ?_
          refine p_end [] (.tuple #[]) (fun _ q => q) rfl ?_
          have hz := sj.fin hd173 (sj.no1 hd173 (by omega)) hp172
          exact ⟨rfl, q171, s170, E174, hz⟩
         ·
          refine v_skip ?_
          refine p_end [] (.tuple #[]) (fun _ q => q) rfl ?_
          have sj : SymJ l a m b i md67 := by first | exact sj_hi h0 h1 h2 h3 hA hB hlmd67 humd67 (by omega) hi (by omega) hj hI hJ | exact sj_lo h0 h1 h2 h3 hA hB hlmd67 humd67 (by omega) hi (by omega) hj hI hJ
          have hd : l0 = rotL l i.toNat m.toNat (md67 + m - i).toNat := (by first | (rw [hl0]; done) | exact hl0.trans (sj.id (by omega)).symm)
          have hz := sj.fin hd (sj.no1 hd (by omega)) (sj.no2 hd (sj.no1 hd (by omega)).1 (by omega))
          exact ⟨rfl, l0, s_l, Eh, hz⟩
        ·
         refine s_pass rfl ?_
         refine s_pass rfl ?_
         refine s_pass rfl ?_
         refine s_pure (.bool false) (fun _ q => q) ?_
         refine s_nil ?_
         refine p_seqN ?_
         refine v_condN rfl (by simp) ?_
         refine v_skip ?_
         refine p_end [] (.tuple #[]) (fun _ q => q) rfl ?_
         have sj : SymJ l a m b i md67 := by first | exact sj_hi h0 h1 h2 h3 hA hB hlmd67 humd67 (by omega) hi (by omega) hj hI hJ | exact sj_lo h0 h1 h2 h3 hA hB hlmd67 humd67 (by omega) hi (by omega) hj hI hJ
         have hd : l0 = rotL l i.toNat m.toNat (md67 + m - i).toNat := (by first | (rw [hl0]; done) | exact hl0.trans (sj.id (by omega)).symm)
         have hz := sj.fin hd (sj.no1 hd (by omega)) (sj.no2 hd (sj.no1 hd (by omega)).1 (by omega))
         exact ⟨rfl, l0, s_l, Eh, hz⟩
      ·
       refine s_pass rfl ?_
       refine s_pass rfl ?_
       refine s_pass rfl ?_
       refine s_pure (.bool false) (fun _ q => q) ?_
       refine s_nil ?_
       refine p_seqN ?_
       refine v_condN rfl (by simp) ?_
       refine v_skip ?_
       refine p_seqN ?_
       refine v_seq ?_
       refine v_ops ?_
       refine s_pure (.int .i64 md67) (fun _ q => q) ?_
       refine s_pure (.int .i64 ((md67 + m) - i)) (fun _ q => q) ?_
       refine s_pure (.bool (decide (md67 < ((md67 + m) - i)))) (fun _ q => q) ?_
       refine s_pure (.bool (decide (md67 < ((md67 + m) - i)))) (fun _ q => q) ?_
       refine s_splitT rfl (fun c175 => ?_) (fun c175 => ?_)
       ·
        refine s_run rfl ?_
        refine s_pure (.int .i64 ((md67 + m) - i)) (fun _ q => q) ?_
        refine s_run rfl ?_
        refine s_pure (.int .i64 b) (fun _ q => q) ?_
        refine s_run rfl ?_
        refine s_pure (.bool (decide (((md67 + m) - i) < b))) (fun _ q => q) ?_
        refine s_pure (.bool (decide (((md67 + m) - i) < b))) (fun _ q => q) ?_
        refine s_nil ?_
        refine p_seqN ?_
        refine v_cond rfl (fun c176 => ?_) (fun c176 => ?_)
        ·
         refine v_ops ?_
         refine s_pure v_l (fun _ q => q) ?_
         refine s_pure (.int .i64 md67) (fun _ q => q) ?_
         refine s_pure (.int .i64 ((md67 + m) - i)) (fun _ q => q) ?_
         refine s_pure (.int .i64 b) (fun _ q => q) ?_
         refine s_pure (.func (.func 66) #[] #[]) (fun _ q => q) ?_
         have sj : SymJ l a m b i md67 := by first | exact sj_hi h0 h1 h2 h3 hA hB hlmd67 humd67 (by omega) hi (by omega) hj hI hJ | exact sj_lo h0 h1 h2 h3 hA hB hlmd67 humd67 (by omega) hi (by omega) hj hI hJ
         have hd181 : l0 = rotL l i.toNat m.toNat (md67 + m - i).toNat := (by first | (rw [hl0]; done) | exact hl0.trans (sj.id (by omega)).symm)
         have hlhd181 := sj.len hd181
         refine s_call [v_l, .int .i64 md67, .int .i64 ((md67 + m) - i), .int .i64 b, .func (.func 66) #[] #[]] rfl (ih v_l l0 md67 ((md67 + m) - i) b _ (by omega) s_l (by omega) (by omega) (by omega) (by omega) (by omega) (sj.p3 hd181 (Like.refl _ _ _)) (sj.p4 hd181 (Like.refl _ _ _))) ?_
         rintro _ h177 ⟨rfl, q179, s178, mh177, hp180⟩
         have zh177 := mh177.size
         have hlq179 := hp180.1.len
         have E182 := Eh.new mh177 (fun b hb => Or.inl hb)
         refine s_nil ?_
         refine p_end [] (.tuple #[]) (fun _ q => q) rfl ?_
         have hz := sj.fin hd181 (sj.no1 hd181 (by omega)) hp180
         exact ⟨rfl, q179, s178, E182, hz⟩
        ·
         refine v_skip ?_
         refine p_end [] (.tuple #[]) (fun _ q => q) rfl ?_
         have sj : SymJ l a m b i md67 := by first | exact sj_hi h0 h1 h2 h3 hA hB hlmd67 humd67 (by omega) hi (by omega) hj hI hJ | exact sj_lo h0 h1 h2 h3 hA hB hlmd67 humd67 (by omega) hi (by omega) hj hI hJ
         have hd : l0 = rotL l i.toNat m.toNat (md67 + m - i).toNat := (by first | (rw [hl0]; done) | exact hl0.trans (sj.id (by omega)).symm)
         have hz := sj.fin hd (sj.no1 hd (by omega)) (sj.no2 hd (sj.no1 hd (by omega)).1 (by omega))
         exact ⟨rfl, l0, s_l, Eh, hz⟩
       ·
        refine s_pass rfl ?_
        refine s_pass rfl ?_
        refine s_pass rfl ?_
        refine s_pure (.bool false) (fun _ q => q) ?_
        refine s_nil ?_
        refine p_seqN ?_
        refine v_condN rfl (by simp) ?_
        refine v_skip ?_
        refine p_end [] (.tuple #[]) (fun _ q => q) rfl ?_
        have sj : SymJ l a m b i md67 := by first | exact sj_hi h0 h1 h2 h3 hA hB hlmd67 humd67 (by omega) hi (by omega) hj hI hJ | exact sj_lo h0 h1 h2 h3 hA hB hlmd67 humd67 (by omega) hi (by omega) hj hI hJ
        have hd : l0 = rotL l i.toNat m.toNat (md67 + m - i).toNat := (by first | (rw [hl0]; done) | exact hl0.trans (sj.id (by omega)).symm)
        have hz := sj.fin hd (sj.no1 hd (by omega)) (sj.no2 hd (sj.no1 hd (by omega)).1 (by omega))
        exact ⟨rfl, l0, s_l, Eh, hz⟩
   ·
    refine v_seq ?_
    refine v_ops ?_
    refine s_pure (.int .i64 a) (fun _ q => q) ?_
    refine s_pure (.int .i64 a) (fun _ q => q) ?_
    refine s_nil ?_
    refine p_seqN ?_
    refine v_ops ?_
    refine s_pure (.int .i64 m) (fun _ q => q) ?_
    refine s_pure (.int .i64 m) (fun _ q => q) ?_
    refine s_nil ?_
    refine p_seqN ?_
    refine v_seq ?_
    refine v_ops ?_
    refine s_pure (.int .i64 (md67 + m)) (fun _ q => q) ?_
    refine s_pure (.int .i64 ((md67 + m) - 1)) (fun _ q => ArithVC.mk (by omega) q) ?_
    refine s_pure (.int .i64 ((md67 + m) - 1)) (fun _ q => q) ?_
    refine s_nil ?_
    refine p_seqN ?_
    refine v_seq ?_
    refine v_block ?_
    refine v_loop3 (α := Int) (β := Int) (γ := List Pk) (fun i j l0 => [(0, v_l), (1, .int .i64 a), (2, .int .i64 m), (3, .int .i64 b), (4, .func (.func 66) #[] #[]), (18, .int .i64 md67), (19, .int .i64 (md67 + m)), (20, .int .i64 i), (21, .int .i64 j), (22, .int .i64 ((md67 + m) - 1))]) (fun i j l0 hh => Mod (blks v_l) h hh ∧ SlO hh v_l l0 ∧ l0 = l ∧ a ≤ i ∧ i ≤ j ∧ j ≤ m ∧ (a < i → nF l (((md67 + m) - 1) - (i - 1)) (i - 1)) ∧ (j < m → yF l (((md67 + m) - 1) - j) j)) (fun i j l0 => (j - i).toNat) a m l ⟨rfl, rfl, rfl, rfl, rfl, rfl, rfl, rfl, rfl, rfl⟩ ⟨(Mod.refl (blks v_l) h), s_l, (by exact ⟨rfl, by omega, by omega, by omega, fun hc => by omega, fun hc => by omega⟩)⟩ ?_
    rintro i j l0 R184 h183 ⟨Eh, s_l, ⟨hl0, hi, hij, hj, hI, hJ⟩⟩
    have zEh := Eh.size
    have lt_l := s_l.lt
    have hlen0 : l0.length = l.length := by rw [hl0]
    refine v_seq ?_
    refine v_seq ?_
    refine v_ops ?_
    refine s_pure (.int .i64 i) (fun _ q => q) ?_
    refine s_pure (.int .i64 j) (fun _ q => q) ?_
    refine s_pure (.bool (decide (i < j))) (fun _ q => q) ?_
    refine s_nil ?_
    refine p_seqN ?_
    refine v_cond rfl (fun c186 => ?_) (fun c186 => ?_)
    ·
     refine v_skip ?_
     refine p_seqN ?_
     refine v_block ?_
     refine v_seq ?_
     refine v_ops ?_
     refine s_pure (.int .i64 i) (fun _ q => q) ?_
     refine s_pure (.int .i64 j) (fun _ q => q) ?_
     refine s_pure (.int .i64 (i + j)) (fun _ q => ArithVC.mk (by omega) q) ?_
     refine s_pure (.int .u64 (IntKind.u64.wrap (i + j))) (fun _ q => q) ?_
     refine s_pure (.int .u64 (((IntKind.u64.wrap (i + j))).fdiv (2 ^ (min ((1) : Int).toNat IntKind.u64.bits)))) (fun _ q => ⟨by decide, q⟩) ?_
     obtain ⟨md187, hlmd187, humd187, hkmd187⟩ := half_conv (a := (i + j)) (by omega) (by omega)
     refine s_pure (.int .i64 md187) (fun _ q => hkmd187 _ q) ?_
     refine s_pure (.int .i64 md187) (fun _ q => q) ?_
     refine s_nil ?_
     refine p_seqN ?_
     refine v_seq ?_
     refine v_drawF ?_
     refine d_pureT (.func (.func 66) #[] #[]) (fun _ q => q) ?_
     refine d_pureT v_l (fun _ q => q) ?_
     refine d_pureT (.int .i64 ((md67 + m) - 1)) (fun _ q => q) ?_
     refine d_pureT (.int .i64 md187) (fun _ q => q) ?_
     refine d_pureT (.int .i64 (((md67 + m) - 1) - md187)) (fun _ q => ArithVC.mk (by omega) q) ?_
     have hk188 : ((((md67 + m) - 1) - md187)).toNat < l0.length := (by first | omega | (simp; omega))
     obtain ⟨x189, hx189⟩ : ∃ x, l0[((((md67 + m) - 1) - md187)).toNat]? = some x := ⟨_, List.getElem?_eq_getElem hk188⟩
     refine d_pureT (.pointer (some ⟨sblk v_l, soff v_l + (((((md67 + m) - 1) - md187)).toNat) * 4, none⟩)) (fun _ q => s_l.idx (k := ((((md67 + m) - 1) - md187)).toNat) (by omega) hk188 q) ?_
     refine d_pureT v_l (fun _ q => q) ?_
     refine d_pureT (.int .i64 md187) (fun _ q => q) ?_
     have hk190 : (md187).toNat < l0.length := (by first | omega | (simp; omega))
     obtain ⟨x191, hx191⟩ : ∃ x, l0[(md187).toNat]? = some x := ⟨_, List.getElem?_eq_getElem hk190⟩
     refine d_pureT (.pointer (some ⟨sblk v_l, soff v_l + ((md187).toNat) * 4, none⟩)) (fun _ q => s_l.idx (k := (md187).toNat) (by omega) hk190 q) ?_
     refine d_loadO (.agg #[.int .i64 x189.message, .int .i64 x189.part, .int .i64 x189.parts, x189.sv.v]) (fun _ q => s_l.loadN hx189 rfl q) ?_
     refine d_loadO (.agg #[.int .i64 x191.message, .int .i64 x191.part, .int .i64 x191.parts, x191.sv.v]) (fun _ q => s_l.loadN hx191 rfl q) ?_
     refine d_eff ?_
     refine s_callv [.agg #[.int .i64 x189.message, .int .i64 x189.part, .int .i64 x189.parts, x189.sv.v], .agg #[.int .i64 x191.message, .int .i64 x191.part, .int .i64 x191.parts, x191.sv.v]] rfl rfl (impl_SortPackets_1_ok x189 x191 _) ?_
     rintro _ h192 ⟨rfl, eh192⟩
     have E193 := Eh.trans (Mod.of_ext eh192 _)
     have z194 := eh192.size
     have G195 := eh192
     refine s_nil ⟨fun hl => (by cases hl), ?_⟩
     refine d_pureT (.bool (decide ((pkCmp x189 x191) < 0))) (fun _ q => q) ?_
     refine d_pureT (.bool (!(decide ((pkCmp x189 x191) < 0)))) (fun _ q => q) ?_
     refine d_done ?_
     refine p_seqN ?_
     refine v_cond rfl (fun c196 => ?_) (fun c196 => ?_)
     ·
      refine v_ops ?_
      refine s_pure (.int .i64 md187) (fun _ q => q) ?_
      refine s_pure (.int .i64 (md187 + 1)) (fun _ q => ArithVC.mk (by omega) q) ?_
      refine s_pure (.int .i64 (md187 + 1)) (fun _ q => q) ?_
      refine s_nil ?_
      refine p_blkN ?_
      have f197 := (s_l.ext eh192)
      exact p_lpN ⟨(md187 + 1), j, l0, ⟨rfl, rfl, rfl, rfl, rfl, rfl, rfl, rfl, rfl, rfl⟩, ⟨E193, (sl_eq f197 rfl), (by first | exact ⟨hl0, by omega, by omega, by omega, fun _ => by (rw [show ∀ c : Int, c + 1 - 1 = c from fun c => by omega]; exact hl0 ▸ nF_of (by assumption) (by assumption) (by assumption)), hJ⟩ | exact ⟨hl0, by omega, by omega, by omega, hI, fun _ => hl0 ▸ yF_of (by assumption) (by assumption) (by assumption)⟩)⟩, by omega⟩
     ·
      have c196 := Classical.not_not.1 c196
      refine v_ops ?_
      refine s_pure (.int .i64 md187) (fun _ q => q) ?_
      refine s_pure (.int .i64 md187) (fun _ q => q) ?_
      refine s_nil ?_
      refine p_blkN ?_
      have f198 := (s_l.ext eh192)
      exact p_lpN ⟨i, md187, l0, ⟨rfl, rfl, rfl, rfl, rfl, rfl, rfl, rfl, rfl, rfl⟩, ⟨E193, (sl_eq f198 rfl), (by first | exact ⟨hl0, by omega, by omega, by omega, fun _ => by (rw [show ∀ c : Int, c + 1 - 1 = c from fun c => by omega]; exact hl0 ▸ nF_of (by assumption) (by assumption) (by assumption)), hJ⟩ | exact ⟨hl0, by omega, by omega, by omega, hI, fun _ => hl0 ▸ yF_of (by assumption) (by assumption) (by assumption)⟩)⟩, by omega⟩
    ·
     refine v_exit ?_
     refine p_seqX ?_
     refine p_lpX ?_
     refine p_blkX ?_
     refine p_seqN ?_
     refine v_seq ?_
     refine v_ops ?_
     refine s_pure (.int .i64 (md67 + m)) (fun _ q => q) ?_
     refine s_pure (.int .i64 i) (fun _ q => q) ?_
     refine s_pure (.int .i64 ((md67 + m) - i)) (fun _ q => ArithVC.mk (by omega) q) ?_
     refine s_pure (.int .i64 ((md67 + m) - i)) (fun _ q => q) ?_
     refine s_nil ?_
     refine p_seqN ?_
     refine v_seq ?_
     refine v_seq ?_
     refine v_ops ?_
     refine s_pure (.int .i64 i) (fun _ q => q) ?_
     refine s_pure (.int .i64 m) (fun _ q => q) ?_
     refine s_pure (.bool (decide (i < m))) (fun _ q => q) ?_
     refine s_pure (.bool (decide (i < m))) (fun _ q => q) ?_
     refine s_splitT rfl (fun c199 => ?_) (fun c199 => ?_)
     ·
      refine s_run rfl ?_
      refine s_pure (.int .i64 m) (fun _ q => q) ?_
      refine s_run rfl ?_
      refine s_pure (.int .i64 ((md67 + m) - i)) (fun _ q => q) ?_
      refine s_run rfl ?_
      refine s_pure (.bool (decide (m < ((md67 + m) - i)))) (fun _ q => q) ?_
      refine s_pure (.bool (decide (m < ((md67 + m) - i)))) (fun _ q => q) ?_
      refine s_nil ?_
      refine p_seqN ?_
      refine v_cond rfl (fun c200 => ?_) (fun c200 => ?_)
      ·
       refine v_ops ?_
       refine s_pure v_l (fun _ q => q) ?_
       refine s_pure (.int .i64 i) (fun _ q => q) ?_
       refine s_pure (.int .i64 m) (fun _ q => q) ?_
       refine s_pure (.int .i64 ((md67 + m) - i)) (fun _ q => q) ?_
       refine s_pure (.func (.func 66) #[] #[]) (fun _ q => q) ?_
       refine s_call [v_l, .int .i64 i, .int .i64 m, .int .i64 ((md67 + m) - i), .func (.func 66) #[] #[]] rfl (slices_rotateCmpFunc_impl_Packet_ok v_l l0 i m ((md67 + m) - i) _ s_l (by omega) (by omega) (by omega) (by omega) (by omega)) ?_
       rintro _ h201 ⟨rfl, s202, mh201⟩
       have zh201 := mh201.size
       have E203 := Eh.new mh201 (fun b hb => Or.inl hb)
       refine s_nil ?_
       refine p_seqN ?_
       refine v_seq ?_
       refine v_seq ?_
       refine v_ops ?_
       refine s_pure (.int .i64 a) (fun _ q => q) ?_
       refine s_pure (.int .i64 i) (fun _ q => q) ?_
       refine s_pure (.bool (decide (a < i))) (fun _ q => q) ?_
       refine s_pure (.bool (decide (a < i))) (fun _ q => q) ?_
       refine s_splitT rfl (fun c204 => ?_) (fun c204 => ?_)
       ·
        refine s_run rfl ?_
        refine s_pure (.int .i64 i) (fun _ q => q) ?_
        refine s_run rfl ?_
        refine s_pure (.int .i64 md67) (fun _ q => q) ?_
        refine s_run rfl ?_
        refine s_pure (.bool (decide (i < md67))) (fun _ q => q) ?_
        refine s_pure (.bool (decide (i < md67))) (fun _ q => q) ?_
        refine s_nil ?_
        refine p_seqN ?_
        refine v_cond rfl (fun c205 => ?_) (fun c205 => ?_)
        ·
         refine v_ops ?_
         refine s_pure v_l (fun _ q => q) ?_
         refine s_pure (.int .i64 a) (fun _ q => q) ?_
         refine s_pure (.int .i64 i) (fun _ q => q) ?_
         refine s_pure (.int .i64 md67) (fun _ q => q) ?_
         refine s_pure (.func (.func 66) #[] #[]) (fun _ q => q) ?_
         have sj : SymJ l a m b i md67 := by first | exact sj_hi h0 h1 h2 h3 hA hB hlmd67 humd67 (by omega) hi (by omega) hj hI hJ | exact sj_lo h0 h1 h2 h3 hA hB hlmd67 humd67 (by omega) hi (by omega) hj hI hJ
         have hd210 : (rotL l0 i.toNat m.toNat ((md67 + m) - i).toNat) = rotL l i.toNat m.toNat (md67 + m - i).toNat := (by first | (rw [hl0]; done) | exact hl0.trans (sj.id (by omega)).symm)
         have hlhd210 := sj.len hd210
         refine s_call [v_l, .int .i64 a, .int .i64 i, .int .i64 md67, .func (.func 66) #[] #[]] rfl (ih v_l (rotL l0 i.toNat m.toNat ((md67 + m) - i).toNat) a i md67 _ (by omega) s202 (by omega) (by omega) (by omega) (by omega) (by omega) (sj.p1 hd210) (sj.p2 hd210)) ?_
         rintro _ h206 ⟨rfl, q208, s207, mh206, hp209⟩
         have zh206 := mh206.size
         have hlq208 := hp209.1.len
         have E211 := E203.new mh206 (fun b hb => Or.inl hb)
         refine s_nil ?_
         refine p_seqN ?_
         refine v_seq ?_
         refine v_ops ?_
         refine s_pure (.int .i64 md67) (fun _ q => q) ?_
         refine s_pure (.int .i64 ((md67 + m) - i)) (fun _ q => q) ?_
         refine s_pure (.bool (decide (md67 < ((md67 + m) - i)))) (fun _ q => q) ?_
         refine s_pure (.bool (decide (md67 < ((md67 + m) - i)))) (fun _ q => q) ?_
         refine s_splitT rfl (fun c212 => ?_) (fun c212 => ?_)
         ·
          refine s_run rfl ?_
          refine s_pure (.int .i64 ((md67 + m) - i)) (fun _ q => q) ?_
          refine s_run rfl ?_
          refine s_pure (.int .i64 b) (fun _ q => q) ?_
          refine s_run rfl ?_
          refine s_pure (.bool (decide (((md67 + m) - i) < b))) (fun _ q => q) ?_
          refine s_pure (.bool (decide (((md67 + m) - i) < b))) (fun _ q => q) ?_
          refine s_nil ?_
          refine p_seqN ?_
          refine v_cond rfl (fun c213 => ?_) (fun c213 => ?_)
          ·
           refine v_ops ?_
           refine s_pure v_l (fun _ q => q) ?_
           refine s_pure (.int .i64 md67) (fun _ q => q) ?_
           refine s_pure (.int .i64 ((md67 + m) - i)) (fun _ q => q) ?_
           refine s_pure (.int .i64 b) (fun _ q => q) ?_
           refine s_pure (.func (.func 66) #[] #[]) (fun _ q => q) ?_
           refine s_call [v_l, .int .i64 md67, .int .i64 ((md67 + m) - i), .int .i64 b, .func (.func 66) #[] #[]] rfl (ih v_l q208 md67 ((md67 + m) - i) b _ (by omega) s207 (by omega) (by omega) (by omega) (by omega) (by omega) (sj.p3 hd210 hp209.1) (sj.p4 hd210 hp209.1)) ?_
           rintro _ h214 ⟨rfl, q216, s215, mh214, hp217⟩
           have zh214 := mh214.size
           have hlq216 := hp217.1.len
           have E218 := E211.new mh214 (fun b hb => Or.inl hb)
           refine s_nil ?_
           refine p_end [] (.tuple #[]) (fun _ q => q) rfl ?_
           have hz := sj.fin hd210 hp209 hp217
           exact ⟨rfl, q216, s215, E218, hz⟩
          ·
           refine v_skip ?_
           refine p_end [] (.tuple #[]) (fun _ q => q) rfl ?_
           have hz := sj.fin hd210 hp209 (sj.no2 hd210 hp209.1 (by omega))
           exact ⟨rfl, q208, s207, E211, hz⟩
         ·
          refine s_pass rfl ?_
          refine s_pass rfl ?_
          refine s_pass rfl ?_
          refine s_pure (.bool false) (fun _ q => q) ?_
          refine s_nil ?_
          refine p_seqN ?_
          refine v_condN rfl (by simp) ?_
          refine v_skip ?_
          refine p_end [] (.tuple #[]) (fun _ q => q) rfl ?_
          have hz := sj.fin hd210 hp209 (sj.no2 hd210 hp209.1 (by omega))
          exact ⟨rfl, q208, s207, E211, hz⟩
        ·
         refine v_skip ?_
         refine p_seqN ?_
         refine v_seq ?_
         refine v_ops ?_
         refine s_pure (.int .i64 md67) (fun _ q => q) ?_
         refine s_pure (.int .i64 ((md67 + m) - i)) (fun _ q => q) ?_
         refine s_pure (.bool (decide (md67 < ((md67 + m) - i)))) (fun _ q => q) ?_
         refine s_pure (.bool (decide (md67 < ((md67 + m) - i)))) (fun _ q => q) ?_
         refine s_splitT rfl (fun c219 => ?_) (fun c219 => ?_)
         ·
          refine s_run rfl ?_
          refine s_pure (.int .i64 ((md67 + m) - i)) (fun _ q => q) ?_
          refine s_run rfl ?_
          refine s_pure (.int .i64 b) (fun _ q => q) ?_
          refine s_run rfl ?_
          refine s_pure (.bool (decide (((md67 + m) - i) < b))) (fun _ q => q) ?_
          refine s_pure (.bool (decide (((md67 + m) - i) < b))) (fun _ q => q) ?_
          refine s_nil ?_
          refine p_seqN ?_
          refine v_cond rfl (fun c220 => ?_) (fun c220 => ?_)
          ·
           refine v_ops ?_
           refine s_pure v_l (fun _ q => q) ?_
           refine s_pure (.int .i64 md67) (fun _ q => q) ?_
           refine s_pure (.int .i64 ((md67 + m) - i)) (fun _ q => q) ?_
           refine s_pure (.int .i64 b) (fun _ q => q) ?_
           refine s_pure (.func (.func 66) #[] #[]) (fun _ q => q) ?_
           have sj : SymJ l a m b i md67 := by first | exact sj_hi h0 h1 h2 h3 hA hB hlmd67 humd67 (by omega) hi (by omega) hj hI hJ | exact sj_lo h0 h1 h2 h3 hA hB hlmd67 humd67 (by omega) hi (by omega) hj hI hJ
           have hd225 : (rotL l0 i.toNat m.toNat ((md67 + m) - i).toNat) = rotL l i.toNat m.toNat (md67 + m - i).toNat := (by first | (rw [hl0]; done) | exact hl0.trans (sj.id (by omega)).symm)
           have hlhd225 := sj.len hd225
           refine s_call [v_l, .int .i64 md67, .int .i64 ((md67 + m) - i), .int .i64 b, .func (.func 66) #[] #[]] rfl (ih v_l (rotL l0 i.toNat m.toNat ((md67 + m) - i).toNat) md67 ((md67 + m) - i) b _ (by omega) s202 (by omega) (by omega) (by omega) (by omega) (by omega) (sj.p3 hd225 (Like.refl _ _ _)) (sj.p4 hd225 (Like.refl _ _ _))) ?_
           rintro _ h221 ⟨rfl, q223, s222, mh221, hp224⟩
           have zh221 := mh221.size
           have hlq223 := hp224.1.len
           have E226 := E203.new mh221 (fun b hb => Or.inl hb)
           refine s_nil ?_
           refine p_end [] (.tuple #[]) (fun _ q => q) rfl ?_
           have hz := sj.fin hd225 (sj.no1 hd225 (by omega)) hp224
           exact ⟨rfl, q223, s222, E226, hz⟩
          ·
           refine v_skip ?_
           refine p_end [] (.tuple #[]) (fun _ q => q) rfl ?_
           have sj : SymJ l a m b i md67 := by first | exact sj_hi h0 h1 h2 h3 hA hB hlmd67 humd67 (by omega) hi (by omega) hj hI hJ | exact sj_lo h0 h1 h2 h3 hA hB hlmd67 humd67 (by omega) hi (by omega) hj hI hJ
           have hd : (rotL l0 i.toNat m.toNat ((md67 + m) - i).toNat) = rotL l i.toNat m.toNat (md67 + m - i).toNat := (by first | (rw [hl0]; done) | exact hl0.trans (sj.id (by omega)).symm)
           have hz := sj.fin hd (sj.no1 hd (by omega)) (sj.no2 hd (sj.no1 hd (by omega)).1 (by omega))
           exact ⟨rfl, (rotL l0 i.toNat m.toNat ((md67 + m) - i).toNat), s202, E203, hz⟩
         ·
          refine s_pass rfl ?_
          refine s_pass rfl ?_
          refine s_pass rfl ?_
          refine s_pure (.bool false) (fun _ q => q) ?_
          refine s_nil ?_
          refine p_seqN ?_
          refine v_condN rfl (by simp) ?_
          refine v_skip ?_
          refine p_end [] (.tuple #[]) (fun _ q => q) rfl ?_
          have sj : SymJ l a m b i md67 := by first | exact sj_hi h0 h1 h2 h3 hA hB hlmd67 humd67 (by omega) hi (by omega) hj hI hJ | exact sj_lo h0 h1 h2 h3 hA hB hlmd67 humd67 (by omega) hi (by omega) hj hI hJ
          have hd : (rotL l0 i.toNat m.toNat ((md67 + m) - i).toNat) = rotL l i.toNat m.toNat (md67 + m - i).toNat := (by first | (rw [hl0]; done) | exact hl0.trans (sj.id (by omega)).symm)
          have hz := sj.fin hd (sj.no1 hd (by omega)) (sj.no2 hd (sj.no1 hd (by omega)).1 (by omega))
          exact ⟨rfl, (rotL l0 i.toNat m.toNat ((md67 + m) - i).toNat), s202, E203, hz⟩
       ·
        refine s_pass rfl ?_
        refine s_pass rfl ?_
        refine s_pass rfl ?_
        refine s_pure (.bool false) (fun _ q => q) ?_
        refine s_nil ?_
        refine p_seqN ?_
        refine v_condN rfl (by simp) ?_
        refine v_skip ?_
        refine p_seqN ?_
        refine v_seq ?_
        refine v_ops ?_
        refine s_pure (.int .i64 md67) (fun _ q => q) ?_
        refine s_pure (.int .i64 ((md67 + m) - i)) (fun _ q => q) ?_
        refine s_pure (.bool (decide (md67 < ((md67 + m) - i)))) (fun _ q => q) ?_
        refine s_pure (.bool (decide (md67 < ((md67 + m) - i)))) (fun _ q => q) ?_
        refine s_splitT rfl (fun c227 => ?_) (fun c227 => ?_)
        ·
         refine s_run rfl ?_
         refine s_pure (.int .i64 ((md67 + m) - i)) (fun _ q => q) ?_
         refine s_run rfl ?_
         refine s_pure (.int .i64 b) (fun _ q => q) ?_
         refine s_run rfl ?_
         refine s_pure (.bool (decide (((md67 + m) - i) < b))) (fun _ q => q) ?_
         refine s_pure (.bool (decide (((md67 + m) - i) < b))) (fun _ q => q) ?_
         refine s_nil ?_
         refine p_seqN ?_
         refine v_cond rfl (fun c228 => ?_) (fun c228 => ?_)
         ·
          refine v_ops ?_
          refine s_pure v_l (fun _ q => q) ?_
          refine s_pure (.int .i64 md67) (fun _ q => q) ?_
          refine s_pure (.int .i64 ((md67 + m) - i)) (fun _ q => q) ?_
          refine s_pure (.int .i64 b) (fun _ q => q) ?_
          refine s_pure (.func (.func 66) #[] #[]) (fun _ q => q) ?_
          have sj : SymJ l a m b i md67 := by first | exact sj_hi h0 h1 h2 h3 hA hB hlmd67 humd67 (by omega) hi (by omega) hj hI hJ | exact sj_lo h0 h1 h2 h3 hA hB hlmd67 humd67 (by omega) hi (by omega) hj hI hJ
          have hd233 : (rotL l0 i.toNat m.toNat ((md67 + m) - i).toNat) = rotL l i.toNat m.toNat (md67 + m - i).toNat := (by first | (rw [hl0]; done) | exact hl0.trans (sj.id (by omega)).symm)
          have hlhd233 := sj.len hd233
          refine s_call [v_l, .int .i64 md67, .int .i64 ((md67 + m) - i), .int .i64 b, .func (.func 66) #[] #[]] rfl (ih v_l (rotL l0 i.toNat m.toNat ((md67 + m) - i).toNat) md67 ((md67 + m) - i) b _ (by omega) s202 (by omega) (by omega) (by omega) (by omega) (by omega) (sj.p3 hd233 (Like.refl _ _ _)) (sj.p4 hd233 (Like.refl _ _ _))) ?_
          rintro _ h229 ⟨rfl, q231, s230, mh229, hp232⟩
          have zh229 := mh229.size
          have hlq231 := hp232.1.len
          have E234 := E203.new mh229 (fun b hb => Or.inl hb)
          refine s_nil ?_
          refine p_end [] (.tuple #[]) (fun _ q => q) rfl ?_
          have hz := sj.fin hd233 (sj.no1 hd233 (by omega)) hp232
          exact ⟨rfl, q231, s230, E234, hz⟩
         ·
          refine v_skip ?_
          refine p_end [] (.tuple #[]) (fun _ q => q) rfl ?_
          have sj : SymJ l a m b i md67 := by first | exact sj_hi h0 h1 h2 h3 hA hB hlmd67 humd67 (by omega) hi (by omega) hj hI hJ | exact sj_lo h0 h1 h2 h3 hA hB hlmd67 humd67 (by omega) hi (by omega) hj hI hJ
          have hd : (rotL l0 i.toNat m.toNat ((md67 + m) - i).toNat) = rotL l i.toNat m.toNat (md67 + m - i).toNat := (by first | (rw [hl0]; done) | exact hl0.trans (sj.id (by omega)).symm)
          have hz := sj.fin hd (sj.no1 hd (by omega)) (sj.no2 hd (sj.no1 hd (by omega)).1 (by omega))
          exact ⟨rfl, (rotL l0 i.toNat m.toNat ((md67 + m) - i).toNat), s202, E203, hz⟩
        ·
         refine s_pass rfl ?_
         refine s_pass rfl ?_
         refine s_pass rfl ?_
         refine s_pure (.bool false) (fun _ q => q) ?_
         refine s_nil ?_
         refine p_seqN ?_
         refine v_condN rfl (by simp) ?_
         refine v_skip ?_
         refine p_end [] (.tuple #[]) (fun _ q => q) rfl ?_
         have sj : SymJ l a m b i md67 := by first | exact sj_hi h0 h1 h2 h3 hA hB hlmd67 humd67 (by omega) hi (by omega) hj hI hJ | exact sj_lo h0 h1 h2 h3 hA hB hlmd67 humd67 (by omega) hi (by omega) hj hI hJ
         have hd : (rotL l0 i.toNat m.toNat ((md67 + m) - i).toNat) = rotL l i.toNat m.toNat (md67 + m - i).toNat := (by first | (rw [hl0]; done) | exact hl0.trans (sj.id (by omega)).symm)
         have hz := sj.fin hd (sj.no1 hd (by omega)) (sj.no2 hd (sj.no1 hd (by omega)).1 (by omega))
         exact ⟨rfl, (rotL l0 i.toNat m.toNat ((md67 + m) - i).toNat), s202, E203, hz⟩
      ·
       refine v_skip ?_
       refine p_seqN ?_
       refine v_seq ?_
       refine v_seq ?_
       refine v_ops ?_
       refine s_pure (.int .i64 a) (fun _ q => q) ?_
       refine s_pure (.int .i64 i) (fun _ q => q) ?_
       refine s_pure (.bool (decide (a < i))) (fun _ q => q) ?_
       refine s_pure (.bool (decide (a < i))) (fun _ q => q) ?_
       refine s_splitT rfl (fun c235 => ?_) (fun c235 => ?_)
       ·
        refine s_run rfl ?_
        refine s_pure (.int .i64 i) (fun _ q => q) ?_
        refine s_run rfl ?_
        refine s_pure (.int .i64 md67) (fun _ q => q) ?_
        refine s_run rfl ?_
        refine s_pure (.bool (decide (i < md67))) (fun _ q => q) ?_
        refine s_pure (.bool (decide (i < md67))) (fun _ q => q) ?_
        refine s_nil ?_
        refine p_seqN ?_
        refine v_cond rfl (fun c236 => ?_) (fun c236 => ?_)
        ·
         refine v_ops ?_
         refine s_pure v_l (fun _ q => q) ?_
         refine s_pure (.int .i64 a) (fun _ q => q) ?_
         refine s_pure (.int .i64 i) (fun _ q => q) ?_
         refine s_pure (.int .i64 md67) (fun _ q => q) ?_
         refine s_pure (.func (.func 66) #[] #[]) (fun _ q => q) ?_
         have sj : SymJ l a m b i md67 := by first | exact sj_hi h0 h1 h2 h3 hA hB hlmd67 humd67 (by omega) hi (by omega) hj hI hJ | exact sj_lo h0 h1 h2 h3 hA hB hlmd67 humd67 (by omega) hi (by omega) hj hI hJ
         have hd241 : l0 = rotL l i.toNat m.toNat (md67 + m - i).toNat := (by first | (rw [hl0]; done) | exact hl0.trans (sj.id (by omega)).symm)
         have hlhd241 := sj.len hd241
         refine s_call [v_l, .int .i64 a, .int .i64 i, .int .i64 md67, .func (.func 66) #[] #[]] rfl (ih v_l l0 a i md67 _ (by omega) s_l (by omega) (by omega) (by omega) (by omega) (by omega) (sj.p1 hd241) (sj.p2 hd241)) ?_
         rintro _ h237 ⟨rfl, q239, s238, mh237, hp240⟩
         have zh237 := mh237.size
         have hlq239 := hp240.1.len
         have E242 := Eh.new mh237 (fun b hb => Or.inl hb)
         refine s_nil ?_
         refine p_seqN ?_
         refine v_seq ?_
         refine v_ops ?_
         refine s_pure (.int .i64 md67) (fun _ q => q) ?_
         refine s_pure (.int .i64 ((md67 + m) - i)) (fun _ q => q) ?_
         refine s_pure (.bool (decide (md67 < ((md67 + m) - i)))) (fun _ q => q) ?_
         refine s_pure (.bool (decide (md67 < ((md67 + m) - i)))) (fun _ q => q) ?_
         refine s_splitT rfl (fun c243 => ?_) (fun c243 => ?_)
         ·
          refine s_run rfl ?_
          refine s_pure (.int .i64 ((md67 + m) - i)) (fun _ q => q) ?_
          refine s_run rfl ?_
          refine s_pure (.int .i64 b) (fun _ q => q) ?_
          refine s_run rfl ?_
          refine s_pure (.bool (decide (((md67 + m) - i) < b))) (fun _ q => q) ?_
          refine s_pure (.bool (decide (((md67 + m) - i) < b))) (fun _ q => q) ?_
          refine s_nil ?_
          refine p_seqN ?_
          refine v_cond rfl (fun c244 => ?_) (fun c244 => ?_)
          ·
           refine v_ops ?_
           refine s_pure v_l (fun _ q => q) ?_
           refine s_pure (.int .i64 md67) (fun _ q => q) ?_
           refine s_pure (.int .i64 ((md67 + m) - i)) (fun _ q => q) ?_
           refine s_pure (.int .i64 b) (fun _ q => q) ?_
           refine s_pure (.func (.func 66) #[] #[]) (fun _ q => q) ?_
           refine s_call [v_l, .int .i64 md67, .int .i64 ((md67 + m) - i), .int .i64 b, .func (.func 66) #[] #[]] rfl (ih v_l q239 md67 ((md67 + m) - i) b _ (by omega) s238 (by omega) (by omega) (by omega) (by omega) (by omega) (sj.p3 hd241 hp240.1) (sj.p4 hd241 hp240.1)) ?_
           rintro _ h245 ⟨rfl, q247, s246, mh245, hp248⟩
           have zh245 := mh245.size
           have hlq247 := hp248.1.len
           have E249 := E242.new mh245 (fun b hb => Or.inl hb)
           refine s_nil ?_
           refine p_end [] (.tuple #[]) (fun _ q => q) rfl ?_
           have hz := sj.fin hd241 hp240 hp248
           exact ⟨rfl, q247, s246, E249, hz⟩
          ·
           refine v_skip ?_
           refine p_end [] (.tuple #[]) (fun _ q => q) rfl ?_
           have hz := sj.fin hd241 hp240 (sj.no2 hd241 hp240.1 (by omega))
           exact ⟨rfl, q239, s238, E242, hz⟩
         ·
          refine s_pass rfl ?_
          refine s_pass rfl ?_
          refine s_pass rfl ?_
          refine s_pure (.bool false) (fun _ q => q) ?_
          refine s_nil ?_
          refine p_seqN ?_
          refine v_condN rfl (by simp) ?_
          refine v_skip ?_
          refine p_end [] (.tuple #[]) (fun _ q => q) rfl ?_
          have hz := sj.fin hd241 hp240 (sj.no2 hd241 hp240.1 (by omega))
          exact ⟨rfl, q239, s238, E242, hz⟩
        ·
         refine v_skip ?_
         refine p_seqN ?_
         refine v_seq ?_
         refine v_ops ?_
         refine s_pure (.int .i64 md67) (fun _ q => q) ?_
         refine s_pure (.int .i64 ((md67 + m) - i)) (fun _ q => q) ?_
         refine s_pure (.bool (decide (md67 < ((md67 + m) - i)))) (fun _ q => q) ?_
         refine s_pure (.bool (decide (md67 < ((md67 + m) - i)))) (fun _ q => q) ?_
         refine s_splitT rfl (fun c250 => ?_) (fun c250 => ?_)
         ·
          refine s_run rfl ?_
          refine s_pure (.int .i64 ((md67 + m) - i)) (fun _ q => q) ?_
          refine s_run rfl ?_
          refine s_pure (.int .i64 b) (fun _ q => q) ?_
          refine s_run rfl ?_
          refine s_pure (.bool (decide (((md67 + m) - i) < b))) (fun _ q => q) ?_
          refine s_pure (.bool (decide (((md67 + m) - i) < b))) (fun _ q => q) ?_
          refine s_nil ?_
          refine p_seqN ?_
          refine v_cond rfl (fun c251 => ?_) (fun c251 => ?_)
          ·
           refine v_ops ?_
           refine s_pure v_l (fun _ q => q) ?_
           refine s_pure (.int .i64 md67) (fun _ q => q) ?_
           refine s_pure (.int .i64 ((md67 + m) - i)) (fun _ q => q) ?_
           refine s_pure (.int .i64 b) (fun _ q => q) ?_
           refine s_pure (.func (.func 66) #[] #[]) (fun _ q => q) ?_
           have sj : SymJ l a m b i md67 := by first | exact sj_hi h0 h1 h2 h3 hA hB hlmd67 humd67 (by omega) hi (by omega) hj hI hJ | exact sj_lo h0 h1 h2 h3 hA hB hlmd67 humd67 (by omega) hi (by omega) hj hI hJ
           have hd256 : l0 = rotL l i.toNat m.toNat (md67 + m - i).toNat := (by first | (rw [hl0]; done) | exact hl0.trans (sj.id (by omega)).symm)
           have hlhd256 := sj.len hd256
           refine s_call [v_l, .int .i64 md67, .int .i64 ((md67 + m) - i), .int .i64 b, .func (.func 66) #[] #[]] rfl (ih v_l l0 md67 ((md67 + m) - i) b _ (by omega) s_l (by omega) (by omega) (by omega) (by omega) (by omega) (sj.p3 hd256 (Like.refl _ _ _)) (sj.p4 hd256 (Like.refl _ _ _))) ?_
           rintro _ h252 ⟨rfl, q254, s253, mh252, hp255⟩
           have zh252 := mh252.size
           have hlq254 := hp255.1.len
           have E257 := Eh.new mh252 (fun b hb => Or.inl hb)
           refine s_nil ?_
           refine p_end [] (.tuple #[]) (fun _ q => q) rfl ?_
           have hz := sj.fin hd256 (sj.no1 hd256 (by omega)) hp255
           exact ⟨rfl, q254, s253, E257, hz⟩
          ·
           refine v_skip ?_
           refine p_end [] (.tuple #[]) (fun _ q => q) rfl ?_
           have sj : SymJ l a m b i md67 := by first | exact sj_hi h0 h1 h2 h3 hA hB hlmd67 humd67 (by omega) hi (by omega) hj hI hJ | exact sj_lo h0 h1 h2 h3 hA hB hlmd67 humd67 (by omega) hi (by omega) hj hI hJ
           have hd : l0 = rotL l i.toNat m.toNat (md67 + m - i).toNat := (by first | (rw [hl0]; done) | exact hl0.trans (sj.id (by omega)).symm)
           have hz := sj.fin hd (sj.no1 hd (by omega)) (sj.no2 hd (sj.no1 hd (by omega)).1 (by omega))
           exact ⟨rfl, l0, s_l, Eh, hz⟩
         ·
          refine s_pass rfl ?_
          refine s_pass rfl ?_
          refine s_pass rfl ?_
          refine s_pure (.bool false) (fun _ q => q) ?_
          refine s_nil ?_
          refine p_seqN ?_
          refine v_condN rfl (by simp) ?_
          refine v_skip ?_
          refine p_end [] (.tuple #[]) (fun _ q => q) rfl ?_
          have sj : SymJ l a m b i md67 := by first | exact sj_hi h0 h1 h2 h3 hA hB hlmd67 humd67 (by omega) hi (by omega) hj hI hJ | exact sj_lo h0 h1 h2 h3 hA hB hlmd67 humd67 (by omega) hi (by omega) hj hI hJ
          have hd : l0 = rotL l i.toNat m.toNat (md67 + m - i).toNat := (by first | (rw [hl0]; done) | exact hl0.trans (sj.id (by omega)).symm)
          have hz := sj.fin hd (sj.no1 hd (by omega)) (sj.no2 hd (sj.no1 hd (by omega)).1 (by omega))
          exact ⟨rfl, l0, s_l, Eh, hz⟩
       ·
        refine s_pass rfl ?_
        refine s_pass rfl ?_
        refine s_pass rfl ?_
        refine s_pure (.bool false) (fun _ q => q) ?_
        refine s_nil ?_
        refine p_seqN ?_
        refine v_condN rfl (by simp) ?_
        refine v_skip ?_
        refine p_seqN ?_
        refine v_seq ?_
        refine v_ops ?_
        refine s_pure (.int .i64 md67) (fun _ q => q) ?_
        refine s_pure (.int .i64 ((md67 + m) - i)) (fun _ q => q) ?_
        refine s_pure (.bool (decide (md67 < ((md67 + m) - i)))) (fun _ q => q) ?_
        refine s_pure (.bool (decide (md67 < ((md67 + m) - i)))) (fun _ q => q) ?_
        refine s_splitT rfl (fun c258 => ?_) (fun c258 => ?_)
        ·
         refine s_run rfl ?_
         refine s_pure (.int .i64 ((md67 + m) - i)) (fun _ q => q) ?_
         refine s_run rfl ?_
         refine s_pure (.int .i64 b) (fun _ q => q) ?_
         refine s_run rfl ?_
         refine s_pure (.bool (decide (((md67 + m) - i) < b))) (fun _ q => q) ?_
         refine s_pure (.bool (decide (((md67 + m) - i) < b))) (fun _ q => q) ?_
         refine s_nil ?_
         refine p_seqN ?_
         refine v_cond rfl (fun c259 => ?_) (fun c259 => ?_)
         ·
          refine v_ops ?_
          refine s_pure v_l (fun _ q => q) ?_
          refine s_pure (.int .i64 md67) (fun _ q => q) ?_
          refine s_pure (.int .i64 ((md67 + m) - i)) (fun _ q => q) ?_
          refine s_pure (.int .i64 b) (fun _ q => q) ?_
          refine s_pure (.func (.func 66) #[] #[]) (fun _ q => q) ?_
          have sj : SymJ l a m b i md67 := by first | exact sj_hi h0 h1 h2 h3 hA hB hlmd67 humd67 (by omega) hi (by omega) hj hI hJ | exact sj_lo h0 h1 h2 h3 hA hB hlmd67 humd67 (by omega) hi (by omega) hj hI hJ
          have hd264 : l0 = rotL l i.toNat m.toNat (md67 + m - i).toNat := (by first | (rw [hl0]; done) | exact hl0.trans (sj.id (by omega)).symm)
          have hlhd264 := sj.len hd264
          refine s_call [v_l, .int .i64 md67, .int .i64 ((md67 + m) - i), .int .i64 b, .func (.func 66) #[] #[]] rfl (ih v_l l0 md67 ((md67 + m) - i) b _ (by omega) s_l (by omega) (by omega) (by omega) (by omega) (by omega) (sj.p3 hd264 (Like.refl _ _ _)) (sj.p4 hd264 (Like.refl _ _ _))) ?_
          rintro _ h260 ⟨rfl, q262, s261, mh260, hp263⟩
          have zh260 := mh260.size
          have hlq262 := hp263.1.len
          have E265 := Eh.new mh260 (fun b hb => Or.inl hb)
          refine s_nil ?_
          refine p_end [] (.tuple #[]) (fun _ q => q) rfl ?_
          have hz := sj.fin hd264 (sj.no1 hd264 (by omega)) hp263
          exact ⟨rfl, q262, s261, E265, hz⟩
         ·
          refine v_skip ?_
          refine p_end [] (.tuple #[]) (fun _ q => q) rfl ?_
          have sj : SymJ l a m b i md67 := by first | exact sj_hi h0 h1 h2 h3 hA hB hlmd67 humd67 (by omega) hi (by omega) hj hI hJ | exact sj_lo h0 h1 h2 h3 hA hB hlmd67 humd67 (by omega) hi (by omega) hj hI hJ
          have hd : l0 = rotL l i.toNat m.toNat (md67 + m - i).toNat := (by first | (rw [hl0]; done) | exact hl0.trans (sj.id (by omega)).symm)
          have hz := sj.fin hd (sj.no1 hd (by omega)) (sj.no2 hd (sj.no1 hd (by omega)).1 (by omega))
          exact ⟨rfl, l0, s_l, Eh, hz⟩
        ·
         refine s_pass rfl ?_
         refine s_pass rfl ?_
         refine s_pass rfl ?_
         refine s_pure (.bool false) (fun _ q => q) ?_
         refine s_nil ?_
         refine p_seqN ?_
         refine v_condN rfl (by simp) ?_
         refine v_skip ?_
         refine p_end [] (.tuple #[]) (fun _ q => q) rfl ?_
         have sj : SymJ l a m b i md67 := by first | exact sj_hi h0 h1 h2 h3 hA hB hlmd67 humd67 (by omega) hi (by omega) hj hI hJ | exact sj_lo h0 h1 h2 h3 hA hB hlmd67 humd67 (by omega) hi (by omega) hj hI hJ
         have hd : l0 = rotL l i.toNat m.toNat (md67 + m - i).toNat := (by first | (rw [hl0]; done) | exact hl0.trans (sj.id (by omega)).symm)
         have hz := sj.fin hd (sj.no1 hd (by omega)) (sj.no2 hd (sj.no1 hd (by omega)).1 (by omega))
         exact ⟨rfl, l0, s_l, Eh, hz⟩
     ·
      refine s_pass rfl ?_
      refine s_pass rfl ?_
      refine s_pass rfl ?_
      refine s_pure (.bool false) (fun _ q => q) ?_
      refine s_nil ?_
      refine p_seqN ?_
      refine v_condN rfl (by simp) ?_
      refine v_skip ?_
      refine p_seqN ?_
      refine v_seq ?_
      refine v_seq ?_
      refine v_ops ?_
      refine s_pure (.int .i64 a) (fun _ q => q) ?_
      refine s_pure (.int .i64 i) (fun _ q => q) ?_
      refine s_pure (.bool (decide (a < i))) (fun _ q => q) ?_
      refine s_pure (.bool (decide (a < i))) (fun _ q => q) ?_
      refine s_splitT rfl (fun c266 => ?_) (fun c266 => ?_)
      ·
       refine s_run rfl ?_
       refine s_pure (.int .i64 i) (fun _ q => q) ?_
       refine s_run rfl ?_
       refine s_pure (.int .i64 md67) (fun _ q => q) ?_
       refine s_run rfl ?_
       refine s_pure (.bool (decide (i < md67))) (fun _ q => q) ?_
       refine s_pure (.bool (decide (i < md67))) (fun _ q => q) ?_
       refine s_nil ?_
       refine p_seqN ?_
       refine v_cond rfl (fun c267 => ?_) (fun c267 => ?_)
       ·
        refine v_ops ?_
        refine s_pure v_l (fun _ q => q) ?_
        refine s_pure (.int .i64 a) (fun _ q => q) ?_
        refine s_pure (.int .i64 i) (fun _ q => q) ?_
        refine s_pure (.int .i64 md67) (fun _ q => q) ?_
        refine s_pure (.func (.func 66) #[] #[]) (fun _ q => q) ?_
        have sj : SymJ l a m b i md67 := by first | exact sj_hi h0 h1 h2 h3 hA hB hlmd67 humd67 (by omega) hi (by omega) hj hI hJ | exact sj_lo h0 h1 h2 h3 hA hB hlmd67 humd67 (by omega) hi (by omega) hj hI hJ
        have hd272 : l0 = rotL l i.toNat m.toNat (md67 + m - i).toNat := (by first | (rw [hl0]; done) | exact hl0.trans (sj.id (by omega)).symm)
        have hlhd272 := sj.len hd272
        refine s_call [v_l, .int .i64 a, .int .i64 i, .int .i64 md67, .func (.func 66) #[] #[]] rfl (ih v_l l0 a i md67 _ (by omega) s_l (by omega) (by omega) (by omega) (by omega) (by omega) (sj.p1 hd272) (sj.p2 hd272)) ?_
        rintro _ h268 ⟨rfl, q270, s269, mh268, hp271⟩
        have zh268 := mh268.size
        have hlq270 := hp271.1.len
        have E273 := Eh.new mh268 (fun b hb => Or.inl hb)
        refine s_nil ?_
        refine p_seqN ?_
        refine v_seq ?_
        refine v_ops ?_
        refine s_pure (.int .i64 md67) (fun _ q => q) ?_
        refine s_pure (.int .i64 ((md67 + m) - i)) (fun _ q => q) ?_
        refine s_pure (.bool (decide (md67 < ((md67 + m) - i)))) (fun _ q => q) ?_
        refine s_pure (.bool (decide (md67 < ((md67 + m) - i)))) (fun _ q => q) ?_
        refine s_splitT rfl (fun c274 => ?_) (fun c274 => ?_)
        ·
         refine s_run rfl ?_
         refine s_pure (.int .i64 ((md67 + m) - i)) (fun _ q => q) ?_
         refine s_run rfl ?_
         refine s_pure (.int .i64 b) (fun _ q => q) ?_
         refine s_run rfl ?_
         refine s_pure (.bool (decide (((md67 + m) - i) < b))) (fun _ q => q) ?_
         refine s_pure (.bool (decide (((md67 + m) - i) < b))) (fun _ q => q) ?_
         refine s_nil ?_
         refine p_seqN ?_
         refine v_cond rfl (fun c275 => ?_) (fun c275 => ?_)
         ·
          refine v_ops ?_
          refine s_pure v_l (fun _ q => q) ?_
          refine s_pure (.int .i64 md67) (fun _ q => q) ?_
          refine s_pure (.int .i64 ((md67 + m) - i)) (fun _ q => q) ?_
          refine s_pure (.int .i64 b) (fun _ q => q) ?_
          refine s_pure (.func (.func 66) #[] #[]) (fun _ q => q) ?_
          refine s_call [v_l, .int .i64 md67, .int .i64 ((md67 + m) - i), .int .i64 b, .func (.func 66) #[] #[]] rfl (ih v_l q270 md67 ((md67 + m) - i) b _ (by omega) s269 (by omega) (by omega) (by omega) (by omega) (by omega) (sj.p3 hd272 hp271.1) (sj.p4 hd272 hp271.1)) ?_
          rintro _ h276 ⟨rfl, q278, s277, mh276, hp279⟩
          have zh276 := mh276.size
          have hlq278 := hp279.1.len
          have E280 := E273.new mh276 (fun b hb => Or.inl hb)
          refine s_nil ?_
          refine p_end [] (.tuple #[]) (fun _ q => q) rfl ?_
          have hz := sj.fin hd272 hp271 hp279
          exact ⟨rfl, q278, s277, E280, hz⟩
         ·
          refine v_skip ?_
          refine p_end [] (.tuple #[]) (fun _ q => q) rfl ?_
          have hz := sj.fin hd272 hp271 (sj.no2 hd272 hp271.1 (by omega))
          exact ⟨rfl, q270, s269, E273, hz⟩
        ·
         refine s_pass rfl ?_
         refine s_pass rfl ?_
         refine s_pass rfl ?_
         refine s_pure (.bool false) (fun _ q => q) ?_
         refine s_nil ?_
         refine p_seqN ?_
         refine v_condN rfl (by simp) ?_
         refine v_skip ?_
         refine p_end [] (.tuple #[]) (fun _ q => q) rfl ?_
         have hz := sj.fin hd272 hp271 (sj.no2 hd272 hp271.1 (by omega))
         exact ⟨rfl, q270, s269, E273, hz⟩
       ·
        refine v_skip ?_
        refine p_seqN ?_
        refine v_seq ?_
        refine v_ops ?_
        refine s_pure (.int .i64 md67) (fun _ q => q) ?_
        refine s_pure (.int .i64 ((md67 + m) - i)) (fun _ q => q) ?_
        refine s_pure (.bool (decide (md67 < ((md67 + m) - i)))) (fun _ q => q) ?_
        refine s_pure (.bool (decide (md67 < ((md67 + m) - i)))) (fun _ q => q) ?_
        refine s_splitT rfl (fun c281 => ?_) (fun c281 => ?_)
        ·
         refine s_run rfl ?_
         refine s_pure (.int .i64 ((md67 + m) - i)) (fun _ q => q) ?_
         refine s_run rfl ?_
         refine s_pure (.int .i64 b) (fun _ q => q) ?_
         refine s_run rfl ?_
         refine s_pure (.bool (decide (((md67 + m) - i) < b))) (fun _ q => q) ?_
         refine s_pure (.bool (decide (((md67 + m) - i) < b))) (fun _ q => q) ?_
         refine s_nil ?_
         refine p_seqN ?_
         refine v_cond rfl (fun c282 => ?_) (fun c282 => ?_)
         ·
          refine v_ops ?_
          refine s_pure v_l (fun _ q => q) ?_
          refine s_pure (.int .i64 md67) (fun _ q => q) ?_
          refine s_pure (.int .i64 ((md67 + m) - i)) (fun _ q => q) ?_
          refine s_pure (.int .i64 b) (fun _ q => q) ?_
          refine s_pure (.func (.func 66) #[] #[]) (fun _ q => q) ?_
          have sj : SymJ l a m b i md67 := by first | exact sj_hi h0 h1 h2 h3 hA hB hlmd67 humd67 (by omega) hi (by omega) hj hI hJ | exact sj_lo h0 h1 h2 h3 hA hB hlmd67 humd67 (by omega) hi (by omega) hj hI hJ
          have hd287 : l0 = rotL l i.toNat m.toNat (md67 + m - i).toNat := (by first | (rw [hl0]; done) | exact hl0.trans (sj.id (by omega)).symm)
          have hlhd287 := sj.len hd287
          refine s_call [v_l, .int .i64 md67, .int .i64 ((md67 + m) - i), .int .i64 b, .func (.func 66) #[] #[]] rfl (ih v_l l0 md67 ((md67 + m) - i) b _ (by omega) s_l (by omega) (by omega) (by omega) (by omega) (by omega) (sj.p3 hd287 (Like.refl _ _ _)) (sj.p4 hd287 (Like.refl _ _ _))) ?_
          rintro _ h283 ⟨rfl, q285, s284, mh283, hp286⟩
          have zh283 := mh283.size
          have hlq285 := hp286.1.len
          have E288 := Eh.new mh283 (fun b hb => Or.inl hb)
          refine s_nil ?_
          refine p_end [] (.tuple #[]) (fun _ q => q) rfl ?_
          have hz := sj.fin hd287 (sj.no1 hd287 (by omega)) hp286
          exact ⟨rfl, q285, s284, E288, hz⟩
         ·
          refine v_skip ?_
          refine p_end [] (.tuple #[]) (fun _ q => q) rfl ?_
          have sj : SymJ l a m b i md67 := by first | exact sj_hi h0 h1 h2 h3 hA hB hlmd67 humd67 (by omega) hi (by omega) hj hI hJ | exact sj_lo h0 h1 h2 h3 hA hB hlmd67 humd67 (by omega) hi (by omega) hj hI hJ
          have hd : l0 = rotL l i.toNat m.toNat (md67 + m - i).toNat := (by first | (rw [hl0]; done) | exact hl0.trans (sj.id (by omega)).symm)
          have hz := sj.fin hd (sj.no1 hd (by omega)) (sj.no2 hd (sj.no1 hd (by omega)).1 (by omega))
          exact ⟨rfl, l0, s_l, Eh, hz⟩
        ·
         refine s_pass rfl ?_
         refine s_pass rfl ?_
         refine s_pass rfl ?_
         refine s_pure (.bool false) (fun _ q => q) ?_
         refine s_nil ?_
         refine p_seqN ?_
         refine v_condN rfl (by simp) ?_
         refine v_skip ?_
         refine p_end [] (.tuple #[]) (fun _ q => q) rfl ?_
         have sj : SymJ l a m b i md67 := by first | exact sj_hi h0 h1 h2 h3 hA hB hlmd67 humd67 (by omega) hi (by omega) hj hI hJ | exact sj_lo h0 h1 h2 h3 hA hB hlmd67 humd67 (by omega) hi (by omega) hj hI hJ
         have hd : l0 = rotL l i.toNat m.toNat (md67 + m - i).toNat := (by first | (rw [hl0]; done) | exact hl0.trans (sj.id (by omega)).symm)
         have hz := sj.fin hd (sj.no1 hd (by omega)) (sj.no2 hd (sj.no1 hd (by omega)).1 (by omega))
         exact ⟨rfl, l0, s_l, Eh, hz⟩
      ·
       refine s_pass rfl ?_
       refine s_pass rfl ?_
       refine s_pass rfl ?_
       refine s_pure (.bool false) (fun _ q => q) ?_
       refine s_nil ?_
       refine p_seqN ?_
       refine v_condN rfl (by simp) ?_
       refine v_skip ?_
       refine p_seqN ?_
       refine v_seq ?_
       refine v_ops ?_
       refine s_pure (.int .i64 md67) (fun _ q => q) ?_
       refine s_pure (.int .i64 ((md67 + m) - i)) (fun _ q => q) ?_
       refine s_pure (.bool (decide (md67 < ((md67 + m) - i)))) (fun _ q => q) ?_
       refine s_pure (.bool (decide (md67 < ((md67 + m) - i)))) (fun _ q => q) ?_
       refine s_splitT rfl (fun c289 => ?_) (fun c289 => ?_)
       ·
        refine s_run rfl ?_
        refine s_pure (.int .i64 ((md67 + m) - i)) (fun _ q => q) ?_
        refine s_run rfl ?_
        refine s_pure (.int .i64 b) (fun _ q => q) ?_
        refine s_run rfl ?_
        refine s_pure (.bool (decide (((md67 + m) - i) < b))) (fun _ q => q) ?_
        refine s_pure (.bool (decide (((md67 + m) - i) < b))) (fun _ q => q) ?_
        refine s_nil ?_
        refine p_seqN ?_
        refine v_cond rfl (fun c290 => ?_) (fun c290 => ?_)
        ·
         refine v_ops ?_
         refine s_pure v_l (fun _ q => q) ?_
         refine s_pure (.int .i64 md67) (fun _ q => q) ?_
         refine s_pure (.int .i64 ((md67 + m) - i)) (fun _ q => q) ?_
         refine s_pure (.int .i64 b) (fun _ q => q) ?_
         refine s_pure (.func (.func 66) #[] #[]) (fun _ q => q) ?_
         have sj : SymJ l a m b i md67 := by first | exact sj_hi h0 h1 h2 h3 hA hB hlmd67 humd67 (by omega) hi (by omega) hj hI hJ | exact sj_lo h0 h1 h2 h3 hA hB hlmd67 humd67 (by omega) hi (by omega) hj hI hJ
         have hd295 : l0 = rotL l i.toNat m.toNat (md67 + m - i).toNat := (by first | (rw [hl0]; done) | exact hl0.trans (sj.id (by omega)).symm)
         have hlhd295 := sj.len hd295
         refine s_call [v_l, .int .i64 md67, .int .i64 ((md67 + m) - i), .int .i64 b, .func (.func 66) #[] #[]] rfl (ih v_l l0 md67 ((md67 + m) - i) b _ (by omega) s_l (by omega) (by omega) (by omega) (by omega) (by omega) (sj.p3 hd295 (Like.refl _ _ _)) (sj.p4 hd295 (Like.refl _ _ _))) ?_
         rintro _ h291 ⟨rfl, q293, s292, mh291, hp294⟩
         have zh291 := mh291.size
         have hlq293 := hp294.1.len
         have E296 := Eh.new mh291 (fun b hb => Or.inl hb)
         refine s_nil ?_
         refine p_end [] (.tuple #[]) (fun _ q => q) rfl ?_
         have hz := sj.fin hd295 (sj.no1 hd295 (by omega)) hp294
         exact ⟨rfl, q293, s292, E296, hz⟩
        ·
         refine v_skip ?_
         refine p_end [] (.tuple #[]) (fun _ q => q) rfl ?_
         have sj : SymJ l a m b i md67 := by first | exact sj_hi h0 h1 h2 h3 hA hB hlmd67 humd67 (by omega) hi (by omega) hj hI hJ | exact sj_lo h0 h1 h2 h3 hA hB hlmd67 humd67 (by omega) hi (by omega) hj hI hJ
         have hd : l0 = rotL l i.toNat m.toNat (md67 + m - i).toNat := (by first | (rw [hl0]; done) | exact hl0.trans (sj.id (by omega)).symm)
         have hz := sj.fin hd (sj.no1 hd (by omega)) (sj.no2 hd (sj.no1 hd (by omega)).1 (by omega))
         exact ⟨rfl, l0, s_l, Eh, hz⟩
       ·
        refine s_pass rfl ?_
        refine s_pass rfl ?_
        refine s_pass rfl ?_
        refine s_pure (.bool false) (fun _ q => q) ?_
        refine s_nil ?_
        refine p_seqN ?_
        refine v_condN rfl (by simp) ?_
        refine v_skip ?_
        refine p_end [] (.tuple #[]) (fun _ q => q) rfl ?_
        have sj : SymJ l a m b i md67 := by first | exact sj_hi h0 h1 h2 h3 hA hB hlmd67 humd67 (by omega) hi (by omega) hj hI hJ | exact sj_lo h0 h1 h2 h3 hA hB hlmd67 humd67 (by omega) hi (by omega) hj hI hJ
        have hd : l0 = rotL l i.toNat m.toNat (md67 + m - i).toNat := (by first | (rw [hl0]; done) | exact hl0.trans (sj.id (by omega)).symm)
        have hz := sj.fin hd (sj.no1 hd (by omega)) (sj.no2 hd (sj.no1 hd (by omega)).1 (by omega))
        exact ⟨rfl, l0, s_l, Eh, hz⟩

end Go.Proofs.Ytjmcijcdncgaiaa

