/- Stable sorting of packets in place: the code. Condition: none. Printed in part by a program. -/
import Derived.Test.YtjmcijcdncgaiaaStab2
import Derived.Test.YtjmcijcdncgaiaaPk3
import Derived.Test.YtjmcijcdncgaiaaStep2
namespace Go.Proofs.Ytjmcijcdncgaiaa
open Go.Vc
set_option linter.all false

def cmpI (a b : Int) : Int := if a < b then -1 else if a > b then 1 else 0
theorem cmpI_neg {a b : Int} : cmpI a b < 0 ↔ a < b := by unfold cmpI; (repeat' split) <;> omega
theorem cmpI_zero {a b : Int} : cmpI a b = 0 ↔ a = b := by unfold cmpI; (repeat' split) <;> omega
theorem cmpI_bd (a b : Int) : -1 ≤ cmpI a b ∧ cmpI a b ≤ 1 := by unfold cmpI; (repeat' split) <;> omega
def orL : List Int → Int
  | [] => 0
  | x :: l => if x ≠ 0 then x else orL l
theorem orL_drop {l : List Int} {k : Nat} (h : ∀ y ∈ l.take k, y = 0) : orL l = orL (l.drop k) := by
  induction k generalizing l with
  | zero => rfl
  | succ k ih =>
    cases l with
    | nil => rfl
    | cons x l =>
      have hx : x = 0 := h x (by simp)
      rw [orL, if_neg (by simp [hx]), List.drop_succ_cons]
      exact ih (fun y hy => h y (by simp only [List.take_succ_cons]; exact List.mem_cons_of_mem _ hy))
theorem all_zero {l : List Int} {k : Nat} {x : Int} (h : ∀ y ∈ l.take k, y = 0) (hx : l[k]? = some x) (hp : x = 0) : ∀ y ∈ l.take (k + 1), y = 0 := by
  rw [snoc_get hx]
  intro y hy
  rcases List.mem_append.1 hy with hy | hy
  · exact h y hy
  · obtain rfl := List.mem_singleton.1 hy; exact hp
theorem drop_atZ {l : List Int} {k : Nat} {x : Int} (h : l[k]? = some x) : l.drop k = x :: l.drop (k + 1) := by
  have hk := (List.getElem?_eq_some_iff.1 h).1
  rw [List.drop_eq_getElem_cons hk, (List.getElem?_eq_some_iff.1 h).2]
abbrev pkKey (p : Pk) : K2 := (p.message, p.part)
def pkCmp (a b : Pk) : Int := orL [cmpI a.message b.message, cmpI a.part b.part]
theorem pkCmp_lt {a b : Pk} : pkCmp a b < 0 ↔ ltK (pkKey a) (pkKey b) := by
  have h1 := @cmpI_neg a.message b.message
  have h2 := @cmpI_neg a.part b.part
  have h3 := @cmpI_zero a.message b.message
  have h4 := cmpI_bd a.message b.message
  have h5 := cmpI_bd a.part b.part
  show _ ↔ (a.message < b.message ∨ (a.message = b.message ∧ a.part < b.part))
  unfold pkCmp orL orL orL
  split
  · omega
  · split <;> omega
theorem pkCmp_bd (a b : Pk) : -1 ≤ pkCmp a b ∧ pkCmp a b ≤ 1 := by
  have h4 := cmpI_bd a.message b.message
  have h5 := cmpI_bd a.part b.part
  unfold pkCmp orL orL orL
  split
  · omega
  · split <;> omega


theorem rotJ {ll l2 : List Pk} {i j : Int} (h0 : 0 ≤ j) (hji : j ≤ i) (hi : i < (ll.length : Int)) (hl2 : l2 = rotL ll j.toNat i.toNat (i.toNat + 1)) : l2[j.toNat]? = ll[i.toNat]? ∧ (0 < j → l2[(j - 1).toNat]? = ll[(j - 1).toNat]?) := by
  subst hl2
  refine ⟨?_, fun hp => ?_⟩
  · rw [rotL_get (by omega) (by omega) (by omega), if_neg (by omega), if_pos (by omega)]
    congr 1; omega
  · rw [rotL_get (by omega) (by omega) (by omega), if_pos (by omega)]
theorem ins_out {l ll l2 : List Pk} {a i j : Int} (ha : 0 ≤ a) (haj : a ≤ j) (hji : j ≤ i) (hi : i < (ll.length : Int)) (hl2 : l2 = rotL ll j.toNat i.toNat (i.toNat + 1))
    (hlt : ∀ x y, j < i → ll[j.toNat]? = some x → ll[i.toNat]? = some y → ltK (pkKey y) (pkKey x)) (hL : Like pkKey l ll a.toNat i.toNat) (hS : SoOn pkKey ll a.toNat i.toNat)
    (hx : ∀ x y, a < j → l2[(j - 1).toNat]? = some x → l2[j.toNat]? = some y → ¬ pkCmp y x < 0) : Like pkKey l l2 a.toNat (i + 1).toNat ∧ SoOn pkKey l2 a.toNat (i + 1).toNat := by
  have r := rotJ (by omega) hji hi hl2
  have e1 : (i + 1).toNat = i.toNat + 1 := by omega
  have p := put_last (key := pkKey) (d := ll) (a := a.toNat) (s := j.toNat) (m := i.toNat) (by omega) (by omega) (by omega) hS (fun x y hs h1 h2 => hlt x y (by omega) h1 h2) (fun x y hs h1 h2 => by
    rw [← pkCmp_lt]
    refine hx x y (by omega) ?_ ?_
    · rw [r.2 (by omega), ← h1]; congr 1; omega
    · rw [r.1, h2])
  rw [e1, hl2]
  exact ⟨(hL.wide (Nat.le_refl _) (by omega)).trans p.1, p.2⟩
theorem ins_out2 {l ll l2 : List Pk} {a i j : Int} {x y : Pk} (ha : 0 ≤ a) (haj : a ≤ j) (hji : j ≤ i) (hi : i < (ll.length : Int)) (hl2 : l2 = rotL ll j.toNat i.toNat (i.toNat + 1))
    (hlt : ∀ x y, j < i → ll[j.toNat]? = some x → ll[i.toNat]? = some y → ltK (pkKey y) (pkKey x)) (hL : Like pkKey l ll a.toNat i.toNat) (hS : SoOn pkKey ll a.toNat i.toNat)
    (hx : l2[(j - 1).toNat]? = some x) (hy : l2[j.toNat]? = some y) (hc : ¬ pkCmp y x < 0) : Like pkKey l l2 a.toNat (i + 1).toNat ∧ SoOn pkKey l2 a.toNat (i + 1).toNat :=
  ins_out ha haj hji hi hl2 hlt hL hS fun u v _ hu hv => by
    rw [hx] at hu
    rw [hy] at hv
    obtain rfl := Option.some.inj hu
    obtain rfl := Option.some.inj hv
    exact hc
theorem ins_in {ll l2 : List Pk} {a i j : Int} {x y : Pk} (ha : 0 ≤ a) (haj : a < j) (hji : j ≤ i) (hi : i < (ll.length : Int)) (hl2 : l2 = rotL ll j.toNat i.toNat (i.toNat + 1))
    (hx : l2[(j - 1).toNat]? = some x) (hy : l2[j.toNat]? = some y) (hc : pkCmp y x < 0) :
    (l2.set j.toNat x).set (j - 1).toNat y = rotL ll (j - 1).toNat i.toNat (i.toNat + 1) ∧ ∀ x y, j - 1 < i → ll[(j - 1).toNat]? = some x → ll[i.toNat]? = some y → ltK (pkKey y) (pkKey x) := by
  have r := rotJ (by omega) hji hi hl2
  have e1 : j.toNat = (j - 1).toNat + 1 := by omega
  refine ⟨?_, fun u v _ hu hv => ?_⟩
  · rw [swp_eq hy hx, hl2]
    have q := rot_down (d := ll) (s := (j - 1).toNat) (m := i.toNat) (by omega) (by omega)
    rw [← e1] at q
    exact q
  · rw [r.2 (by omega), hu] at hx
    rw [r.1, hv] at hy
    obtain rfl := Option.some.inj hx
    obtain rfl := Option.some.inj hy
    exact pkCmp_lt.1 hc
theorem ins_none {ll : List Pk} {i : Int} (h0 : 0 ≤ i) (hi : i < (ll.length : Int)) : ll = rotL ll i.toNat i.toNat (i.toNat + 1) := (rotL_id (by omega) (by omega) (by omega) (.inl rfl)).symm

theorem cmp_isNaN_int_ok (a : Int) (h : Heap)  : Cn f_cmp_isNaN_int [.int .i64 a] h fun v h' => v = .bool false ∧ h' = h := by
  refine calls_of r_cmp_isNaN_int ?_
  refine v_seq ?_
  refine v_ops ?_
  refine s_pure (.bool false) (fun _ q => q) ?_
  refine s_nil ?_
  refine p_seqN ?_
  refine v_seq ?_
  refine v_ops ?_
  refine s_pure (.int .i64 a) (fun _ q => q) ?_
  refine s_pure (.int .i64 a) (fun _ q => q) ?_
  refine s_pure (.bool (a != a)) (fun _ q => q) ?_
  refine s_pure (.bool (a != a)) (fun _ q => q) ?_
  refine s_nil ?_
  refine p_seqN ?_
  refine v_ret ?_
  refine p_ret [.bool (a != a)] (.bool (a != a)) (fun _ q => q) rfl ?_
  have ho : false = (a != a) := by simp
  exact ⟨by first | (rw [ho]; done) | rfl, rfl⟩

theorem cmp_Compare_int_ok (a : Int) (b : Int) (h : Heap)  : Cn f_cmp_Compare_int [.int .i64 a, .int .i64 b] h fun v h' => v = .int .i64 (cmpI a b) ∧ h' = h := by
  refine calls_of r_cmp_Compare_int ?_
  refine v_seq ?_
  refine v_ops ?_
  refine s_pure (.int .i64 0) (fun _ q => q) ?_
  refine s_nil ?_
  refine p_seqN ?_
  refine v_seq ?_
  refine v_ops ?_
  refine s_pure (.int .i64 a) (fun _ q => q) ?_
  refine s_callS [.int .i64 a] (.bool false) rfl (cmp_isNaN_int_ok a _ ) ?_
  refine s_pure (.bool false) (fun _ q => q) ?_
  refine s_nil ?_
  refine p_seqN ?_
  refine v_seq ?_
  refine v_ops ?_
  refine s_pure (.int .i64 b) (fun _ q => q) ?_
  refine s_callS [.int .i64 b] (.bool false) rfl (cmp_isNaN_int_ok b _ ) ?_
  refine s_pure (.bool false) (fun _ q => q) ?_
  refine s_nil ?_
  refine p_seqN ?_
  refine v_seq ?_
  refine v_seq ?_
  refine v_ops ?_
  refine s_pure (.bool false) (fun _ q => q) ?_
  refine s_nil ?_
  refine p_seqN ?_
  refine v_condN rfl (by simp) ?_
  refine v_skip ?_
  refine p_seqN ?_
  refine v_seq ?_
  refine v_seq ?_
  refine v_ops ?_
  refine s_pure (.bool false) (fun _ q => q) ?_
  refine s_nil ?_
  refine p_seqN ?_
  refine v_condN rfl (by simp) ?_
  refine v_skip ?_
  refine p_seqN ?_
  refine v_seq ?_
  refine v_seq ?_
  refine v_ops ?_
  refine s_pure (.int .i64 a) (fun _ q => q) ?_
  refine s_pure (.int .i64 b) (fun _ q => q) ?_
  refine s_pure (.bool (decide (a < b))) (fun _ q => q) ?_
  refine s_nil ?_
  refine p_seqN ?_
  refine v_cond rfl (fun c1 => ?_) (fun c1 => ?_)
  ·
    refine v_seq ?_
    refine v_ops ?_
    refine s_pure (.int .i64 (-1)) (fun _ q => q) ?_
    refine s_nil ?_
    refine p_seqN ?_
    refine v_ret ?_
    refine p_seqR ?_
    refine p_ret [.int .i64 (-1)] (.int .i64 (-1)) (fun _ q => q) rfl ?_
    have ho : (cmpI a b) = (-1) := by unfold cmpI; first | rw [if_pos (by assumption)] | (rw [if_neg (by assumption)]; first | rw [if_pos (by assumption)] | rw [if_neg (by assumption)])
    exact ⟨by first | (rw [ho]; done) | rfl, rfl⟩
  ·
    refine v_skip ?_
    refine p_seqN ?_
    refine v_seq ?_
    refine v_seq ?_
    refine v_ops ?_
    refine s_pure (.int .i64 a) (fun _ q => q) ?_
    refine s_pure (.int .i64 b) (fun _ q => q) ?_
    refine s_pure (.bool (decide (a > b))) (fun _ q => q) ?_
    refine s_nil ?_
    refine p_seqN ?_
    refine v_cond rfl (fun c2 => ?_) (fun c2 => ?_)
    ·
      refine v_seq ?_
      refine v_ops ?_
      refine s_pure (.int .i64 1) (fun _ q => q) ?_
      refine s_nil ?_
      refine p_seqN ?_
      refine v_ret ?_
      refine p_seqR ?_
      refine p_ret [.int .i64 1] (.int .i64 1) (fun _ q => q) rfl ?_
      have ho : (cmpI a b) = 1 := by unfold cmpI; first | rw [if_pos (by assumption)] | (rw [if_neg (by assumption)]; first | rw [if_pos (by assumption)] | rw [if_neg (by assumption)])
      exact ⟨by first | (rw [ho]; done) | rfl, rfl⟩
    ·
      refine v_skip ?_
      refine p_seqN ?_
      refine v_seq ?_
      refine v_ops ?_
      refine s_pure (.int .i64 0) (fun _ q => q) ?_
      refine s_nil ?_
      refine p_seqN ?_
      refine v_ret ?_
      refine p_ret [.int .i64 0] (.int .i64 0) (fun _ q => q) rfl ?_
      have ho : (cmpI a b) = 0 := by unfold cmpI; first | rw [if_pos (by assumption)] | (rw [if_neg (by assumption)]; first | rw [if_pos (by assumption)] | rw [if_neg (by assumption)])
      exact ⟨by first | (rw [ho]; done) | rfl, rfl⟩

theorem cmp_Or_int_ok (v_l : Value) (l : List Int) (h : Heap) (s_l : Sl h v_l l) : Cn f_cmp_Or_int [v_l] h fun v h' => v = .int .i64 (orL l) ∧ Ext h h' := by
  have lt_l := s_l.lt
  have l63_l := s_l.len63
  refine calls_of r_cmp_Or_int ?_
  refine v_seq ?_
  refine v_ops ?_
  refine s_pure (.int .i64 0) (fun _ q => q) ?_
  refine s_nil ?_
  refine p_seqN ?_
  refine v_seq ?_
  refine v_ops ?_
  refine s_pure (.int .i64 0) (fun _ q => q) ?_
  refine s_nil ?_
  refine p_seqN ?_
  refine v_seq ?_
  refine v_seq ?_
  refine v_ops ?_
  refine s_pure v_l (fun _ q => q) ?_
  refine s_pure (.int .i64 (l.length : Int)) (fun _ q => s_l.lenVC q) ?_
  refine s_pure (.int .i64 0) (fun _ q => q) ?_
  refine s_nil ?_
  refine p_seqN ?_
  refine v_block ?_
  refine v_loop1 (α := Nat) (fun k => [(3, .int .i64 0), (6, v_l), (7, .int .i64 (l.length : Int)), (8, .int .i64 (k : Int))]) (fun k hh => Ext h hh ∧ k ≤ l.length ∧ ∀ y ∈ l.take k, y = 0) (fun k => l.length - k) 0 ⟨rfl, rfl, rfl, rfl⟩ ⟨(Ext.refl h), (by simp)⟩ ?_
  rintro k R2 h1 ⟨Eh, ⟨hk, hall⟩⟩
  have zEh := Eh.size
  have f3 := s_l.ext Eh
  refine v_seq ?_
  refine v_ops ?_
  refine s_pure (.bool (decide ((k : Int) < (l.length : Int)))) (fun _ q => q) ?_
  refine s_nil ?_
  refine p_seqN ?_
  refine v_seq ?_
  refine v_cond rfl (fun c4 => ?_) (fun c4 => ?_)
  ·
    refine v_skip ?_
    refine p_seqN ?_
    refine v_seq ?_
    refine v_block ?_
    refine v_seq ?_
    refine v_ops ?_
    have hk5 : k < l.length := (by first | omega | (simp; omega))
    obtain ⟨x6, hx6⟩ : ∃ x, l[k]? = some x := ⟨_, List.getElem?_eq_getElem hk5⟩
    refine s_pure (.pointer (some ⟨sblk v_l, soff v_l + k * 1, none⟩)) (fun _ q => f3.idx (k := k) rfl hk5 q) ?_
    refine s_load (.int .i64 x6) (fun _ q => f3.load1 hx6 rfl q) ?_
    refine s_pure (.int .i64 x6) (fun _ q => q) ?_
    refine s_nil ?_
    refine p_seqN ?_
    refine v_seq ?_
    refine v_ops ?_
    refine s_pure (.int .i64 x6) (fun _ q => q) ?_
    refine s_pure (.int .i64 0) (fun _ q => q) ?_
    refine s_pure (.bool (x6 != 0)) (fun _ q => q) ?_
    refine s_nil ?_
    refine p_seqN ?_
    refine v_cond rfl (fun c7 => ?_) (fun c7 => ?_)
    ·
      refine v_seq ?_
      refine v_ops ?_
      refine s_pure (.int .i64 x6) (fun _ q => q) ?_
      refine s_pure (.int .i64 x6) (fun _ q => q) ?_
      refine s_nil ?_
      refine p_seqN ?_
      refine v_ret ?_
      refine p_blkR ?_
      refine p_seqR ?_
      refine p_lpR ?_
      refine p_blkR ?_
      refine p_seqR ?_
      refine p_ret [.int .i64 x6] (.int .i64 x6) (fun _ q => q) rfl ?_
      have ho : (orL l) = x6 := by first | (rw [orL_drop hall, drop_atZ (by assumption), orL, if_pos (by assumption)]; done) | (rw [orL_drop hall, List.drop_of_length_le (by omega)]; rfl)
      exact ⟨by first | (rw [ho]; done) | rfl, Eh⟩
    ·
      have c7 := Classical.not_not.1 c7
      refine v_skip ?_
      refine p_blkN ?_
      refine p_seqN ?_
      refine v_ops ?_
      refine s_pure (.int .i64 ((k : Int) + 1)) (fun _ q => ArithVC.mk (by omega) q) ?_
      refine s_pure (.int .i64 ((k : Int) + 1)) (fun _ q => q) ?_
      refine s_nil ?_
      exact p_lpN ⟨k + 1, ⟨rfl, rfl, rfl, rfl⟩, ⟨Eh, (by exact ⟨by omega, all_zero hall (by assumption) (by assumption)⟩)⟩, by omega⟩
  ·
    refine v_exit ?_
    refine p_seqX ?_
    refine p_lpX ?_
    refine p_blkX ?_
    refine p_seqN ?_
    refine v_seq ?_
    refine v_ops ?_
    refine s_pure (.int .i64 0) (fun _ q => q) ?_
    refine s_pure (.int .i64 0) (fun _ q => q) ?_
    refine s_nil ?_
    refine p_seqN ?_
    refine v_ret ?_
    refine p_ret [.int .i64 0] (.int .i64 0) (fun _ q => q) rfl ?_
    have ho : (orL l) = 0 := by first | (rw [orL_drop hall, drop_atZ (by assumption), orL, if_pos (by assumption)]; done) | (rw [orL_drop hall, List.drop_of_length_le (by omega)]; rfl)
    exact ⟨by first | (rw [ho]; done) | rfl, Eh⟩

theorem impl_SortPackets_1_ok (p : Pk) (q : Pk) (h : Heap)  : Cn f_impl_SortPackets_1 [.agg #[.int .i64 p.message, .int .i64 p.part, .int .i64 p.parts, p.sv.v], .agg #[.int .i64 q.message, .int .i64 q.part, .int .i64 q.parts, q.sv.v]] h fun v h' => v = .int .i64 (pkCmp p q) ∧ Ext h h' := by
  refine calls_of r_impl_SortPackets_1 ?_
  refine v_seq ?_
  refine v_ops ?_
  refine s_box [.int .i64 p.message, .int .i64 p.part, .int .i64 p.parts, p.sv.v] rfl (fun h2 b1 hbb1 hzb1 eh2 bxb1 => ?_)
  have E3 := (Ext.refl h).trans eh2
  have z4 := eh2.size
  have lbb1 := bxb1.lt
  refine s_box [.int .i64 q.message, .int .i64 q.part, .int .i64 q.parts, q.sv.v] rfl (fun h6 b5 hbb5 hzb5 eh6 bxb5 => ?_)
  have E7 := E3.trans eh6
  have z8 := eh6.size
  have lbb5 := bxb5.lt
  refine s_pure (.int .i64 0) (fun _ q => q) ?_
  refine s_nil ?_
  refine p_seqN ?_
  refine v_seq ?_
  have f9 := (bxb1.ext eh6)
  refine v_draw (DrawVC.hold ([b1] ++ [b5]) ?_)
  refine d_pureT (.pointer (some ⟨b1, 0, none⟩)) (fun _ q => q) ?_
  refine d_pureT (.pointer (some ⟨b5, 0, none⟩)) (fun _ q => q) ?_
  refine d_pureT (.pointer (some ⟨b1, 1, none⟩)) (fun _ q => q) ?_
  refine d_pureT (.pointer (some ⟨b5, 1, none⟩)) (fun _ q => q) ?_
  refine d_loadO (.int .i64 p.message) (fun _ q => f9.load rfl q) ?_
  refine d_loadO (.int .i64 q.message) (fun _ q => bxb5.load rfl q) ?_
  refine d_loadT (.int .i64 p.part) (fun _ q => f9.take (by simp) rfl q) ?_
  refine d_loadT (.int .i64 q.part) (fun _ q => bxb5.take (by simp) rfl q) ?_
  refine d_eff ?_
  refine s_callS [.int .i64 p.message, .int .i64 q.message] (.int .i64 (cmpI p.message q.message)) rfl (cmp_Compare_int_ok p.message q.message _ ) ?_
  refine s_nil ⟨fun _ x hx => rfl, ?_⟩
  refine d_eff ?_
  refine s_callS [.int .i64 p.part, .int .i64 q.part] (.int .i64 (cmpI p.part q.part)) rfl (cmp_Compare_int_ok p.part q.part _ ) ?_
  refine s_nil ⟨fun hl => (by cases hl), ?_⟩
  refine d_eff ?_
  refine s_row (α := Int) [(cmpI p.message q.message), (cmpI p.part q.part)] (fun _ q => seg_i rfl (seg_i rfl (seg_nil q))) rfl (by simp [maxLen]) (fun r10 h11 eh11 zh11 s_r10 fr_r10 => ?_)
  have E12 := E7.trans eh11
  have z13 := eh11.size
  have G14 := eh11
  have lt_r10 := s_r10.lt
  refine s_nil ⟨fun hl => (by cases hl), ?_⟩
  refine d_eff ?_
  refine s_call [r10] rfl (cmp_Or_int_ok r10 [(cmpI p.message q.message), (cmpI p.part q.part)] _ s_r10.toSl) ?_
  rintro _ h15 ⟨rfl, eh15⟩
  have E16 := E12.trans eh15
  have z17 := eh15.size
  have G18 := G14.trans eh15
  refine s_nil ⟨fun hl => (by cases hl), ?_⟩
  refine d_pureT (.int .i64 (orL [(cmpI p.message q.message), (cmpI p.part q.part)])) (fun _ q => q) ?_
  refine d_done ?_
  refine p_seqN ?_
  refine v_ret ?_
  refine p_ret [.int .i64 (orL [(cmpI p.message q.message), (cmpI p.part q.part)])] (.int .i64 (orL [(cmpI p.message q.message), (cmpI p.part q.part)])) (fun _ q => q) rfl ?_
  have ho : (pkCmp p q) = (orL [(cmpI p.message q.message), (cmpI p.part q.part)]) := by rfl
  exact ⟨by first | (rw [ho]; done) | rfl, E16⟩

theorem slices_swapRangeCmpFunc_impl_Packet_ok (v_l : Value) (l : List Pk) (a : Int) (b : Int) (n : Int) (h : Heap) (s_l : SlO h v_l l) (h0 : 0 ≤ a) (h1 : a + n ≤ b) (h2 : b + n ≤ (l.length : Int)) (hn : 0 ≤ n) (bl : l.length ≤ 1000000) : Cn f_slices_swapRangeCmpFunc_impl_Packet [v_l, .int .i64 a, .int .i64 b, .int .i64 n, .func (.func 66) #[] #[]] h fun v h' => v = .tuple #[] ∧ SlO h' v_l (swR l a b n.toNat) ∧ Mod (blks v_l) h h' := by
  have lt_l := s_l.lt
  have l63_l := s_l.len63
  refine calls_of r_slices_swapRangeCmpFunc_impl_Packet ?_
  refine v_seq ?_
  refine v_ops ?_
  refine s_pure (.int .i64 0) (fun _ q => q) ?_
  refine s_nil ?_
  refine p_seqN ?_
  refine v_block ?_
  refine v_loop2 (α := Nat) (β := List Pk) (fun k ll => [(0, v_l), (1, .int .i64 a), (2, .int .i64 b), (3, .int .i64 n), (10, .int .i64 (k : Int))]) (fun k ll hh => Mod (blks v_l) h hh ∧ SlO hh v_l ll ∧ (k : Int) ≤ n ∧ ll = swR l a b k) (fun k ll => n.toNat - k) 0 l ⟨rfl, rfl, rfl, rfl, rfl⟩ ⟨(Mod.refl (blks v_l) h), s_l, (by exact ⟨by omega, rfl⟩)⟩ ?_
  rintro k ll R2 h1 ⟨Eh, s_l, ⟨hk, hll⟩⟩
  have zEh := Eh.size
  have lt_l := s_l.lt
  have hlen : ll.length = l.length := by rw [hll]; exact swR_len k
  refine v_seq ?_
  refine v_seq ?_
  refine v_ops ?_
  refine s_pure (.int .i64 (k : Int)) (fun _ q => q) ?_
  refine s_pure (.int .i64 n) (fun _ q => q) ?_
  refine s_pure (.bool (decide ((k : Int) < n))) (fun _ q => q) ?_
  refine s_nil ?_
  refine p_seqN ?_
  refine v_cond rfl (fun c3 => ?_) (fun c3 => ?_)
  ·
    refine v_skip ?_
    refine p_seqN ?_
    refine v_seq ?_
    refine v_block ?_
    refine v_drawF ?_
    refine d_pureT v_l (fun _ q => q) ?_
    refine d_pureT (.int .i64 a) (fun _ q => q) ?_
    refine d_pureT (.int .i64 (k : Int)) (fun _ q => q) ?_
    refine d_pureT (.int .i64 (a + (k : Int))) (fun _ q => ArithVC.mk (by omega) q) ?_
    refine d_pureT v_l (fun _ q => q) ?_
    refine d_pureT (.int .i64 b) (fun _ q => q) ?_
    refine d_pureT (.int .i64 (k : Int)) (fun _ q => q) ?_
    refine d_pureT (.int .i64 (b + (k : Int))) (fun _ q => ArithVC.mk (by omega) q) ?_
    refine d_pureT v_l (fun _ q => q) ?_
    refine d_pureT (.int .i64 b) (fun _ q => q) ?_
    refine d_pureT (.int .i64 (k : Int)) (fun _ q => q) ?_
    refine d_pureT (.int .i64 (b + (k : Int))) (fun _ q => ArithVC.mk (by omega) q) ?_
    have hk4 : ((b + (k : Int))).toNat < ll.length := (by first | omega | (simp; omega))
    obtain ⟨x5, hx5⟩ : ∃ x, ll[((b + (k : Int))).toNat]? = some x := ⟨_, List.getElem?_eq_getElem hk4⟩
    refine d_pureT (.pointer (some ⟨sblk v_l, soff v_l + (((b + (k : Int))).toNat) * 4, none⟩)) (fun _ q => s_l.idx (k := ((b + (k : Int))).toNat) (by omega) hk4 q) ?_
    refine d_pureT v_l (fun _ q => q) ?_
    refine d_pureT (.int .i64 a) (fun _ q => q) ?_
    refine d_pureT (.int .i64 (k : Int)) (fun _ q => q) ?_
    refine d_pureT (.int .i64 (a + (k : Int))) (fun _ q => ArithVC.mk (by omega) q) ?_
    have hk6 : ((a + (k : Int))).toNat < ll.length := (by first | omega | (simp; omega))
    obtain ⟨x7, hx7⟩ : ∃ x, ll[((a + (k : Int))).toNat]? = some x := ⟨_, List.getElem?_eq_getElem hk6⟩
    refine d_pureT (.pointer (some ⟨sblk v_l, soff v_l + (((a + (k : Int))).toNat) * 4, none⟩)) (fun _ q => s_l.idx (k := ((a + (k : Int))).toNat) (by omega) hk6 q) ?_
    refine d_loadO (.agg #[.int .i64 x5.message, .int .i64 x5.part, .int .i64 x5.parts, x5.sv.v]) (fun _ q => s_l.loadN hx5 rfl q) ?_
    refine d_loadO (.agg #[.int .i64 x7.message, .int .i64 x7.part, .int .i64 x7.parts, x7.sv.v]) (fun _ q => s_l.loadN hx7 rfl q) ?_
    refine d_pureT (.pointer (some ⟨sblk v_l, soff v_l + (((a + (k : Int))).toNat) * 4, none⟩)) (fun _ q => s_l.idx (k := ((a + (k : Int))).toNat) (by omega) hk6 q) ?_
    refine d_eff ?_
    refine s_stSl (k := ((a + (k : Int))).toNat) (j := 0) x5 (.agg #[.int .i64 x5.message, .int .i64 x5.part, .int .i64 x5.parts, x5.sv.v]) [.int .i64 x5.message, .int .i64 x5.part, .int .i64 x5.parts, x5.sv.v] s_l rfl rfl rfl rfl rfl hx7 (Nat.le_of_ble_eq_true rfl) rfl (all_cons rfl (all_cons rfl (all_cons rfl (all_cons rfl all_nil)))) (fun h8 mh8 sh8 s9 => ?_)
    have E10 := Eh.new mh8 (fun b hb => Or.inl hb)
    refine s_nil ⟨fun hl => (by cases hl), ?_⟩
    have hk11 : ((b + (k : Int))).toNat < (ll.set (((a + (k : Int))).toNat) x5).length := (by first | omega | (simp; omega))
    obtain ⟨x12, hx12⟩ : ∃ x, (ll.set (((a + (k : Int))).toNat) x5)[((b + (k : Int))).toNat]? = some x := ⟨_, List.getElem?_eq_getElem hk11⟩
    refine d_pureT (.pointer (some ⟨sblk v_l, soff v_l + (((b + (k : Int))).toNat) * 4, none⟩)) (fun _ q => s9.idx (k := ((b + (k : Int))).toNat) (by omega) hk11 q) ?_
    refine d_eff ?_
    refine s_stSl (k := ((b + (k : Int))).toNat) (j := 0) x7 (.agg #[.int .i64 x7.message, .int .i64 x7.part, .int .i64 x7.parts, x7.sv.v]) [.int .i64 x7.message, .int .i64 x7.part, .int .i64 x7.parts, x7.sv.v] s9 rfl rfl rfl rfl rfl hx12 (Nat.le_of_ble_eq_true rfl) rfl (all_cons rfl (all_cons rfl (all_cons rfl (all_cons rfl all_nil)))) (fun h13 mh13 sh13 s14 => ?_)
    have E15 := E10.new mh13 (fun b hb => Or.inl hb)
    refine s_nil ⟨fun hl => (by cases hl), ?_⟩
    refine d_done ?_
    refine p_blkN ?_
    refine p_seqN ?_
    refine v_ops ?_
    refine s_pure (.int .i64 (k : Int)) (fun _ q => q) ?_
    refine s_pure (.int .i64 ((k : Int) + 1)) (fun _ q => ArithVC.mk (by omega) q) ?_
    refine s_pure (.int .i64 ((k : Int) + 1)) (fun _ q => q) ?_
    refine s_nil ?_
    exact p_lpN ⟨k + 1, ((ll.set (((a + (k : Int))).toNat) x5).set (((b + (k : Int))).toNat) x7), ⟨rfl, rfl, rfl, rfl, rfl⟩, ⟨E15, (sl_eq s14 rfl), (by exact ⟨by omega, by rw [swR, ← hll]; exact swp_eq (by assumption) (by assumption)⟩)⟩, by omega⟩
  ·
    refine v_exit ?_
    refine p_seqX ?_
    refine p_lpX ?_
    refine p_blkX ?_
    refine p_end [] (.tuple #[]) (fun _ q => q) rfl ?_
    have ho : ll = swR l a b n.toNat := by rw [hll]; congr 1; omega
    exact ⟨rfl, ho ▸ s_l, Eh⟩

theorem slices_rotateCmpFunc_impl_Packet_ok (v_l : Value) (l : List Pk) (a : Int) (m : Int) (b : Int) (h : Heap) (s_l : SlO h v_l l) (h0 : 0 ≤ a) (h1 : a < m) (h2 : m < b) (h3 : b ≤ (l.length : Int)) (bl : l.length ≤ 1000000) : Cn f_slices_rotateCmpFunc_impl_Packet [v_l, .int .i64 a, .int .i64 m, .int .i64 b, .func (.func 66) #[] #[]] h fun v h' => v = .tuple #[] ∧ SlO h' v_l (rotL l a.toNat m.toNat b.toNat) ∧ Mod (blks v_l) h h' := by
  have lt_l := s_l.lt
  have l63_l := s_l.len63
  refine calls_of r_slices_rotateCmpFunc_impl_Packet ?_
  refine v_seq ?_
  refine v_ops ?_
  refine s_pure (.int .i64 m) (fun _ q => q) ?_
  refine s_pure (.int .i64 a) (fun _ q => q) ?_
  refine s_pure (.int .i64 (m - a)) (fun _ q => ArithVC.mk (by omega) q) ?_
  refine s_pure (.int .i64 (m - a)) (fun _ q => q) ?_
  refine s_nil ?_
  refine p_seqN ?_
  refine v_seq ?_
  refine v_ops ?_
  refine s_pure (.int .i64 b) (fun _ q => q) ?_
  refine s_pure (.int .i64 m) (fun _ q => q) ?_
  refine s_pure (.int .i64 (b - m)) (fun _ q => ArithVC.mk (by omega) q) ?_
  refine s_pure (.int .i64 (b - m)) (fun _ q => q) ?_
  refine s_nil ?_
  refine p_seqN ?_
  refine v_seq ?_
  refine v_block ?_
  refine v_loop3 (α := Int) (β := Int) (γ := List Pk) (fun i j ll => [(0, v_l), (2, .int .i64 m), (4, .func (.func 66) #[] #[]), (10, .int .i64 i), (11, .int .i64 j)]) (fun i j ll hh => Mod (blks v_l) h hh ∧ SlO hh v_l ll ∧ 0 < i ∧ 0 < j ∧ a ≤ m - i ∧ m + j ≤ b ∧ ll.length = l.length ∧ rotL ll (m - i).toNat m.toNat (m + j).toNat = rotL l a.toNat m.toNat b.toNat) (fun i j ll => (i + j).toNat) (m - a) (b - m) l ⟨rfl, rfl, rfl, rfl, rfl⟩ ⟨(Mod.refl (blks v_l) h), s_l, (by exact ⟨by omega, by omega, by omega, by omega, rfl, by rw [show m - (m - a) = a by omega, show m + (b - m) = b by omega]⟩)⟩ ?_
  rintro i j ll R2 h1 ⟨Eh, s_l, ⟨hi, hj, hai, hbj, hlen, hr⟩⟩
  have zEh := Eh.size
  have lt_l := s_l.lt
  refine v_seq ?_
  refine v_seq ?_
  refine v_ops ?_
  refine s_pure (.int .i64 i) (fun _ q => q) ?_
  refine s_pure (.int .i64 j) (fun _ q => q) ?_
  refine s_pure (.bool (i != j)) (fun _ q => q) ?_
  refine s_nil ?_
  refine p_seqN ?_
  refine v_cond rfl (fun c3 => ?_) (fun c3 => ?_)
  ·
    refine v_skip ?_
    refine p_seqN ?_
    refine v_block ?_
    refine v_seq ?_
    refine v_ops ?_
    refine s_pure (.int .i64 i) (fun _ q => q) ?_
    refine s_pure (.int .i64 j) (fun _ q => q) ?_
    refine s_pure (.bool (decide (i > j))) (fun _ q => q) ?_
    refine s_nil ?_
    refine p_seqN ?_
    refine v_cond rfl (fun c4 => ?_) (fun c4 => ?_)
    ·
      refine v_seq ?_
      refine v_ops ?_
      refine s_pure v_l (fun _ q => q) ?_
      refine s_pure (.int .i64 m) (fun _ q => q) ?_
      refine s_pure (.int .i64 i) (fun _ q => q) ?_
      refine s_pure (.int .i64 (m - i)) (fun _ q => ArithVC.mk (by omega) q) ?_
      refine s_pure (.int .i64 m) (fun _ q => q) ?_
      refine s_pure (.int .i64 j) (fun _ q => q) ?_
      refine s_pure (.func (.func 66) #[] #[]) (fun _ q => q) ?_
      refine s_call [v_l, .int .i64 (m - i), .int .i64 m, .int .i64 j, .func (.func 66) #[] #[]] rfl (slices_swapRangeCmpFunc_impl_Packet_ok v_l ll (m - i) m j _ s_l (by omega) (by omega) (by omega) (by omega) (by omega)) ?_
      rintro _ h5 ⟨rfl, s6, mh5⟩
      have zh5 := mh5.size
      have E7 := Eh.new mh5 (fun b hb => Or.inl hb)
      refine s_nil ?_
      refine p_seqN ?_
      refine v_ops ?_
      refine s_pure (.int .i64 i) (fun _ q => q) ?_
      refine s_pure (.int .i64 j) (fun _ q => q) ?_
      refine s_pure (.int .i64 (i - j)) (fun _ q => ArithVC.mk (by omega) q) ?_
      refine s_pure (.int .i64 (i - j)) (fun _ q => q) ?_
      refine s_nil ?_
      refine p_blkN ?_
      exact p_lpN ⟨(i - j), j, (swR ll (m - i) m j.toNat), ⟨rfl, rfl, rfl, rfl, rfl⟩, ⟨E7, (sl_eq s6 rfl), (by first | exact ⟨by omega, by omega, by omega, by omega, by rw [swR_len]; exact hlen, (rot_left (by omega) (by omega) (by omega) (by omega)).trans hr⟩ | exact ⟨by omega, by omega, by omega, by omega, by rw [swR_len]; exact hlen, (rot_right (by omega) (by omega) (by omega) (by omega)).trans hr⟩)⟩, by omega⟩
    ·
      refine v_seq ?_
      refine v_ops ?_
      refine s_pure v_l (fun _ q => q) ?_
      refine s_pure (.int .i64 m) (fun _ q => q) ?_
      refine s_pure (.int .i64 i) (fun _ q => q) ?_
      refine s_pure (.int .i64 (m - i)) (fun _ q => ArithVC.mk (by omega) q) ?_
      refine s_pure (.int .i64 m) (fun _ q => q) ?_
      refine s_pure (.int .i64 j) (fun _ q => q) ?_
      refine s_pure (.int .i64 (m + j)) (fun _ q => ArithVC.mk (by omega) q) ?_
      refine s_pure (.int .i64 i) (fun _ q => q) ?_
      refine s_pure (.int .i64 ((m + j) - i)) (fun _ q => ArithVC.mk (by omega) q) ?_
      refine s_pure (.int .i64 i) (fun _ q => q) ?_
      refine s_pure (.func (.func 66) #[] #[]) (fun _ q => q) ?_
      refine s_call [v_l, .int .i64 (m - i), .int .i64 ((m + j) - i), .int .i64 i, .func (.func 66) #[] #[]] rfl (slices_swapRangeCmpFunc_impl_Packet_ok v_l ll (m - i) ((m + j) - i) i _ s_l (by omega) (by omega) (by omega) (by omega) (by omega)) ?_
      rintro _ h8 ⟨rfl, s9, mh8⟩
      have zh8 := mh8.size
      have E10 := Eh.new mh8 (fun b hb => Or.inl hb)
      refine s_nil ?_
      refine p_seqN ?_
      refine v_ops ?_
      refine s_pure (.int .i64 j) (fun _ q => q) ?_
      refine s_pure (.int .i64 i) (fun _ q => q) ?_
      refine s_pure (.int .i64 (j - i)) (fun _ q => ArithVC.mk (by omega) q) ?_
      refine s_pure (.int .i64 (j - i)) (fun _ q => q) ?_
      refine s_nil ?_
      refine p_blkN ?_
      exact p_lpN ⟨i, (j - i), (swR ll (m - i) ((m + j) - i) i.toNat), ⟨rfl, rfl, rfl, rfl, rfl⟩, ⟨E10, (sl_eq s9 rfl), (by first | exact ⟨by omega, by omega, by omega, by omega, by rw [swR_len]; exact hlen, (rot_left (by omega) (by omega) (by omega) (by omega)).trans hr⟩ | exact ⟨by omega, by omega, by omega, by omega, by rw [swR_len]; exact hlen, (rot_right (by omega) (by omega) (by omega) (by omega)).trans hr⟩)⟩, by omega⟩
  ·
    have c3 := Classical.not_not.1 c3
    refine v_exit ?_
    refine p_seqX ?_
    refine p_lpX ?_
    refine p_blkX ?_
    refine p_seqN ?_
    refine v_ops ?_
    refine s_pure v_l (fun _ q => q) ?_
    refine s_pure (.int .i64 m) (fun _ q => q) ?_
    refine s_pure (.int .i64 i) (fun _ q => q) ?_
    refine s_pure (.int .i64 (m - i)) (fun _ q => ArithVC.mk (by omega) q) ?_
    refine s_pure (.int .i64 m) (fun _ q => q) ?_
    refine s_pure (.int .i64 i) (fun _ q => q) ?_
    refine s_pure (.func (.func 66) #[] #[]) (fun _ q => q) ?_
    refine s_call [v_l, .int .i64 (m - i), .int .i64 m, .int .i64 i, .func (.func 66) #[] #[]] rfl (slices_swapRangeCmpFunc_impl_Packet_ok v_l ll (m - i) m i _ s_l (by omega) (by omega) (by omega) (by omega) (by omega)) ?_
    rintro _ h11 ⟨rfl, s12, mh11⟩
    have zh11 := mh11.size
    have E13 := Eh.new mh11 (fun b hb => Or.inl hb)
    refine s_nil ?_
    refine p_end [] (.tuple #[]) (fun _ q => q) rfl ?_
    have ho : (swR ll (m - i) m i.toNat) = rotL l a.toNat m.toNat b.toNat := by (have hij : i = j := by omega); subst hij; exact (rot_end (by omega) (by omega) (by omega)).trans hr
    exact ⟨rfl, ho ▸ s12, E13⟩

set_option maxRecDepth 10000 in
set_option maxHeartbeats 4000000 in
theorem slices_insertionSortCmpFunc_impl_Packet_ok (v_l : Value) (l : List Pk) (a : Int) (b : Int) (h : Heap) (s_l : SlO h v_l l) (h0 : 0 ≤ a) (h1 : a ≤ b) (h2 : b ≤ (l.length : Int)) (bl : l.length ≤ 1000000) : Cn f_slices_insertionSortCmpFunc_impl_Packet [v_l, .int .i64 a, .int .i64 b, .func (.func 66) #[] #[]] h fun v h' => v = .tuple #[] ∧ ∃ l_ : List Pk, SlO h' v_l l_ ∧ Mod (blks v_l) h h' ∧ (Like pkKey l l_ a.toNat b.toNat ∧ SoOn pkKey l_ a.toNat b.toNat) := by
  have lt_l := s_l.lt
  have l63_l := s_l.len63
  refine calls_of r_slices_insertionSortCmpFunc_impl_Packet ?_
  refine v_seq ?_
  refine v_ops ?_
  refine s_pure (.int .i64 a) (fun _ q => q) ?_
  refine s_pure (.int .i64 (a + 1)) (fun _ q => ArithVC.mk (by omega) q) ?_
  refine s_pure (.int .i64 (a + 1)) (fun _ q => q) ?_
  refine s_nil ?_
  refine p_seqN ?_
  refine v_block ?_
  refine v_loop2 (α := Int) (β := List Pk) (fun i ll => [(0, v_l), (1, .int .i64 a), (2, .int .i64 b), (3, .func (.func 66) #[] #[]), (8, .int .i64 i)]) (fun i ll hh => Mod (blks v_l) h hh ∧ SlO hh v_l ll ∧ a + 1 ≤ i ∧ (i ≤ b ∨ (i = a + 1 ∧ ll = l)) ∧ Like pkKey l ll a.toNat i.toNat ∧ SoOn pkKey ll a.toNat i.toNat) (fun i ll => (b + 1 - i).toNat) (a + 1) l ⟨rfl, rfl, rfl, rfl, rfl⟩ ⟨(Mod.refl (blks v_l) h), s_l, (by exact ⟨by omega, .inr ⟨rfl, rfl⟩, Like.refl _ _ _, SoOn.one (by omega)⟩)⟩ ?_
  rintro i ll R2 h1 ⟨Eh, s_l, ⟨hi, hib, hL, hS⟩⟩
  have zEh := Eh.size
  have lt_l := s_l.lt
  have hlen := hL.len
  refine v_seq ?_
  refine v_seq ?_
  refine v_ops ?_
  refine s_pure (.int .i64 i) (fun _ q => q) ?_
  refine s_pure (.int .i64 b) (fun _ q => q) ?_
  refine s_pure (.bool (decide (i < b))) (fun _ q => q) ?_
  refine s_nil ?_
  refine p_seqN ?_
  refine v_cond rfl (fun c3 => ?_) (fun c3 => ?_)
  ·
    refine v_skip ?_
    refine p_seqN ?_
    refine v_seq ?_
    refine v_block ?_
    refine v_seq ?_
    refine v_ops ?_
    refine s_pure (.int .i64 i) (fun _ q => q) ?_
    refine s_pure (.int .i64 i) (fun _ q => q) ?_
    refine s_nil ?_
    refine p_seqN ?_
    refine v_block ?_
    refine v_loop2 (α := Int) (β := List Pk) (fun j l2 => [(0, v_l), (1, .int .i64 a), (2, .int .i64 b), (3, .func (.func 66) #[] #[]), (8, .int .i64 i), (9, .int .i64 j)]) (fun j l2 hh => Mod (blks v_l) h hh ∧ SlO hh v_l l2 ∧ a ≤ j ∧ j ≤ i ∧ l2 = rotL ll j.toNat i.toNat (i.toNat + 1) ∧ (∀ x y, j < i → ll[j.toNat]? = some x → ll[i.toNat]? = some y → ltK (pkKey y) (pkKey x))) (fun j l2 => j.toNat) i ll ⟨rfl, rfl, rfl, rfl, rfl, rfl⟩ ⟨Eh, s_l, (by exact ⟨by omega, by omega, ins_none (by omega) (by omega), fun x y hc => by omega⟩)⟩ ?_
    rintro j l2 R5 h4 ⟨Eh, s_l, ⟨hja, hji, hl2, hlt⟩⟩
    have zEh := Eh.size
    have lt_l := s_l.lt
    have hlen2 : l2.length = ll.length := by rw [hl2]; exact rotL_len (by omega) (by omega) (by omega)
    refine v_seq ?_
    refine v_seq ?_
    refine v_drawF ?_
    refine d_pureT (.int .i64 j) (fun _ q => q) ?_
    refine d_pureT (.int .i64 a) (fun _ q => q) ?_
    refine d_pureT (.bool (decide (j > a))) (fun _ q => q) ?_
    refine d_pureT (.bool (decide (j > a))) (fun _ q => q) ?_
    refine d_splitT rfl (fun c6 => ?_) (fun c6 => ?_)
    ·
      refine d_runT rfl ?_
      refine d_pureT (.func (.func 66) #[] #[]) (fun _ q => q) ?_
      refine d_runT rfl ?_
      refine d_pureT v_l (fun _ q => q) ?_
      refine d_runT rfl ?_
      refine d_pureT (.int .i64 j) (fun _ q => q) ?_
      refine d_runT rfl ?_
      have hk7 : (j).toNat < l2.length := (by first | omega | (simp; omega))
      obtain ⟨x8, hx8⟩ : ∃ x, l2[(j).toNat]? = some x := ⟨_, List.getElem?_eq_getElem hk7⟩
      refine d_pureT (.pointer (some ⟨sblk v_l, soff v_l + ((j).toNat) * 4, none⟩)) (fun _ q => s_l.idx (k := (j).toNat) (by omega) hk7 q) ?_
      refine d_runT rfl ?_
      refine d_pureT v_l (fun _ q => q) ?_
      refine d_runT rfl ?_
      refine d_pureT (.int .i64 j) (fun _ q => q) ?_
      refine d_runT rfl ?_
      refine d_pureT (.int .i64 (j - 1)) (fun _ q => ArithVC.mk (by omega) q) ?_
      refine d_runT rfl ?_
      have hk9 : ((j - 1)).toNat < l2.length := (by first | omega | (simp; omega))
      obtain ⟨x10, hx10⟩ : ∃ x, l2[((j - 1)).toNat]? = some x := ⟨_, List.getElem?_eq_getElem hk9⟩
      refine d_pureT (.pointer (some ⟨sblk v_l, soff v_l + (((j - 1)).toNat) * 4, none⟩)) (fun _ q => s_l.idx (k := ((j - 1)).toNat) (by omega) hk9 q) ?_
      refine d_runO rfl ?_
      refine d_loadO (.agg #[.int .i64 x8.message, .int .i64 x8.part, .int .i64 x8.parts, x8.sv.v]) (fun _ q => s_l.loadN hx8 rfl q) ?_
      refine d_runO rfl ?_
      refine d_loadO (.agg #[.int .i64 x10.message, .int .i64 x10.part, .int .i64 x10.parts, x10.sv.v]) (fun _ q => s_l.loadN hx10 rfl q) ?_
      refine d_runO rfl ?_
      refine d_eff ?_
      refine s_callv [.agg #[.int .i64 x8.message, .int .i64 x8.part, .int .i64 x8.parts, x8.sv.v], .agg #[.int .i64 x10.message, .int .i64 x10.part, .int .i64 x10.parts, x10.sv.v]] rfl rfl (impl_SortPackets_1_ok x8 x10 _) ?_
      rintro _ h11 ⟨rfl, eh11⟩
      have E12 := Eh.trans (Mod.of_ext eh11 _)
      have z13 := eh11.size
      have G14 := eh11
      refine s_nil ⟨fun hl => (by cases hl), ?_⟩
      refine d_runT rfl ?_
      refine d_pureT (.bool (decide ((pkCmp x8 x10) < 0))) (fun _ q => q) ?_
      refine d_pureT (.bool (decide ((pkCmp x8 x10) < 0))) (fun _ q => q) ?_
      refine d_done ?_
      refine p_seqN ?_
      refine v_cond rfl (fun c15 => ?_) (fun c15 => ?_)
      ·
        refine v_skip ?_
        refine p_seqN ?_
        refine v_seq ?_
        refine v_block ?_
        refine v_drawF ?_
        refine d_pureT v_l (fun _ q => q) ?_
        refine d_pureT (.int .i64 j) (fun _ q => q) ?_
        refine d_pureT v_l (fun _ q => q) ?_
        refine d_pureT (.int .i64 j) (fun _ q => q) ?_
        refine d_pureT (.int .i64 (j - 1)) (fun _ q => ArithVC.mk (by omega) q) ?_
        refine d_pureT v_l (fun _ q => q) ?_
        refine d_pureT (.int .i64 j) (fun _ q => q) ?_
        refine d_pureT (.int .i64 (j - 1)) (fun _ q => ArithVC.mk (by omega) q) ?_
        have f16 := (s_l.ext eh11)
        refine d_pureT (.pointer (some ⟨sblk v_l, soff v_l + (((j - 1)).toNat) * 4, none⟩)) (fun _ q => f16.idx (k := ((j - 1)).toNat) (by omega) hk9 q) ?_
        refine d_pureT v_l (fun _ q => q) ?_
        refine d_pureT (.int .i64 j) (fun _ q => q) ?_
        refine d_pureT (.pointer (some ⟨sblk v_l, soff v_l + ((j).toNat) * 4, none⟩)) (fun _ q => f16.idx (k := (j).toNat) (by omega) hk7 q) ?_
        refine d_loadO (.agg #[.int .i64 x10.message, .int .i64 x10.part, .int .i64 x10.parts, x10.sv.v]) (fun _ q => f16.loadN hx10 rfl q) ?_
        refine d_loadO (.agg #[.int .i64 x8.message, .int .i64 x8.part, .int .i64 x8.parts, x8.sv.v]) (fun _ q => f16.loadN hx8 rfl q) ?_
        refine d_pureT (.pointer (some ⟨sblk v_l, soff v_l + ((j).toNat) * 4, none⟩)) (fun _ q => f16.idx (k := (j).toNat) (by omega) hk7 q) ?_
        refine d_eff ?_
        refine s_stSl (k := (j).toNat) (j := 0) x10 (.agg #[.int .i64 x10.message, .int .i64 x10.part, .int .i64 x10.parts, x10.sv.v]) [.int .i64 x10.message, .int .i64 x10.part, .int .i64 x10.parts, x10.sv.v] f16 rfl rfl rfl rfl rfl hx8 (Nat.le_of_ble_eq_true rfl) rfl (all_cons rfl (all_cons rfl (all_cons rfl (all_cons rfl all_nil)))) (fun h17 mh17 sh17 s18 => ?_)
        have E19 := E12.new mh17 (fun b hb => Or.inl hb)
        refine s_nil ⟨fun hl => (by cases hl), ?_⟩
        have hk20 : ((j - 1)).toNat < (l2.set ((j).toNat) x10).length := (by first | omega | (simp; omega))
        obtain ⟨x21, hx21⟩ : ∃ x, (l2.set ((j).toNat) x10)[((j - 1)).toNat]? = some x := ⟨_, List.getElem?_eq_getElem hk20⟩
        refine d_pureT (.pointer (some ⟨sblk v_l, soff v_l + (((j - 1)).toNat) * 4, none⟩)) (fun _ q => s18.idx (k := ((j - 1)).toNat) (by omega) hk20 q) ?_
        refine d_eff ?_
        refine s_stSl (k := ((j - 1)).toNat) (j := 0) x8 (.agg #[.int .i64 x8.message, .int .i64 x8.part, .int .i64 x8.parts, x8.sv.v]) [.int .i64 x8.message, .int .i64 x8.part, .int .i64 x8.parts, x8.sv.v] s18 rfl rfl rfl rfl rfl hx21 (Nat.le_of_ble_eq_true rfl) rfl (all_cons rfl (all_cons rfl (all_cons rfl (all_cons rfl all_nil)))) (fun h22 mh22 sh22 s23 => ?_)
        have E24 := E19.new mh22 (fun b hb => Or.inl hb)
        refine s_nil ⟨fun hl => (by cases hl), ?_⟩
        refine d_done ?_
        refine p_blkN ?_
        refine p_seqN ?_
        refine v_ops ?_
        refine s_pure (.int .i64 j) (fun _ q => q) ?_
        refine s_pure (.int .i64 (j - 1)) (fun _ q => ArithVC.mk (by omega) q) ?_
        refine s_pure (.int .i64 (j - 1)) (fun _ q => q) ?_
        refine s_nil ?_
        exact p_lpN ⟨(j - 1), ((l2.set ((j).toNat) x10).set (((j - 1)).toNat) x8), ⟨rfl, rfl, rfl, rfl, rfl, rfl⟩, ⟨E24, (sl_eq s23 rfl), (by (have hin := ins_in h0 (by omega) hji (by omega) hl2 (by assumption) (by assumption) (by assumption)); exact ⟨by omega, by omega, hin.1, hin.2⟩)⟩, by omega⟩
      ·
        refine v_exit ?_
        refine p_seqX ?_
        refine p_lpX ?_
        refine p_blkX ?_
        refine p_blkN ?_
        refine p_seqN ?_
        refine v_ops ?_
        refine s_pure (.int .i64 i) (fun _ q => q) ?_
        refine s_pure (.int .i64 (i + 1)) (fun _ q => ArithVC.mk (by omega) q) ?_
        refine s_pure (.int .i64 (i + 1)) (fun _ q => q) ?_
        refine s_nil ?_
        have f25 := (s_l.ext eh11)
        exact p_lpN ⟨(i + 1), l2, ⟨rfl, rfl, rfl, rfl, rfl⟩, ⟨E12, (sl_eq f25 rfl), (by first | exact ⟨by omega, .inl (by omega), ins_out h0 hja hji (by omega) hl2 hlt hL hS (fun x y hc _ _ => by omega)⟩ | exact ⟨by omega, .inl (by omega), ins_out2 h0 hja hji (by omega) hl2 hlt hL hS (by assumption) (by assumption) (by assumption)⟩)⟩, by omega⟩
    ·
      refine d_passT rfl ?_
      refine d_passT rfl ?_
      refine d_passT rfl ?_
      refine d_passT rfl ?_
      refine d_passT rfl ?_
      refine d_passT rfl ?_
      refine d_passT rfl ?_
      refine d_passT rfl ?_
      refine d_passO rfl ?_
      refine d_passO rfl ?_
      refine d_passO rfl ?_
      refine d_passT rfl ?_
      refine d_pureT (.bool false) (fun _ q => q) ?_
      refine d_done ?_
      refine p_seqN ?_
      refine v_condN rfl (by simp) ?_
      refine v_exit ?_
      refine p_seqX ?_
      refine p_lpX ?_
      refine p_blkX ?_
      refine p_blkN ?_
      refine p_seqN ?_
      refine v_ops ?_
      refine s_pure (.int .i64 i) (fun _ q => q) ?_
      refine s_pure (.int .i64 (i + 1)) (fun _ q => ArithVC.mk (by omega) q) ?_
      refine s_pure (.int .i64 (i + 1)) (fun _ q => q) ?_
      refine s_nil ?_
      exact p_lpN ⟨(i + 1), l2, ⟨rfl, rfl, rfl, rfl, rfl⟩, ⟨Eh, (sl_eq s_l rfl), (by first | exact ⟨by omega, .inl (by omega), ins_out h0 hja hji (by omega) hl2 hlt hL hS (fun x y hc _ _ => by omega)⟩ | exact ⟨by omega, .inl (by omega), ins_out2 h0 hja hji (by omega) hl2 hlt hL hS (by assumption) (by assumption) (by assumption)⟩)⟩, by omega⟩
  ·
    refine v_exit ?_
    refine p_seqX ?_
    refine p_lpX ?_
    refine p_blkX ?_
    refine p_end [] (.tuple #[]) (fun _ q => q) rfl ?_
    exact ⟨rfl, ll, s_l, Eh, by (rcases hib with hib | ⟨h5, rfl⟩; (have hib2 : i.toNat = b.toNat := by omega); rw [hib2] at hL hS; exact ⟨hL, hS⟩; exact ⟨Like.refl _ _ _, SoOn.one (by omega)⟩)⟩

end Go.Proofs.Ytjmcijcdncgaiaa
