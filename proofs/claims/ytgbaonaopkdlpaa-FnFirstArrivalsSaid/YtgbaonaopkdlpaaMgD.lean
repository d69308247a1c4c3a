/- Ro10, Ro11, Ro12, Wy1, Merge, Cur, Cu1. Condition: none. -/
import Derived.Test.YtgbaonaopkdlpaaMgC
import Derived.Test.YtgbaonaopkdlpaaStep2
import Derived.Test.YtgbaonaopkdlpaaMgA
/- Ways found from their end: plain laws. Condition: none. -/
namespace Go.Proofs.Ytgbaonaopkdlpaa
open Go.Vc
set_option linter.all false

theorem prevOf_good {n : NetP} {l : List FogD} {first : List Int} {i k : Int} (hk : 0 ≤ k) (hg : Good n l first i k) (hnp : ∀ q, 0 ≤ q → q < k → ¬ Good n l first i q) : prevOf n l first i = k := (prevOf_eq ⟨hk, hg, hnp⟩).symm
theorem Arr.prev {n : NetP} {l : List FogD} {a t : Int} {out : List Int} (hn : NetOk n) (h : Arr n l a t out) {i : Int} (hi : 0 ≤ i) (hl : i ≤ (n.towers.length : Int) - 1) (h0 : 0 ≤ gI out i) (hne : i ≠ a) : Good n l out i (prevOf n l out i) := by
 obtain ⟨p, hp⟩ := h.good hi hl h0 hne
 have hpt := hp.tower hn
 obtain ⟨m, hm, hmin⟩ := least_nat (p := fun m : Nat => Good n l out i (m : Int)) ⟨p.toNat, by rw [show ((p.toNat : Nat) : Int) = p by omega]; exact hp⟩
 rw [prevOf_good (k := (m : Int)) (by omega) hm (fun q h0 hq hg => by
  have := hmin q.toNat (by rw [show ((q.toNat : Nat) : Int) = q by omega]; exact hg)
  omega)]
 exact hm
theorem wayL_fuel {n : NetP} {l : List FogD} {a t : Int} {out : List Int} (hn : NetOk n) (h : Arr n l a t out) : ∀ (f f' : Nat) (i : Int), 0 ≤ i → i ≤ (n.towers.length : Int) - 1 → 0 ≤ gI out i → (gI out i).toNat < f → (gI out i).toNat < f' → wayL n l out a f i = wayL n l out a f' i := by
  intro f
  induction f with
  | zero => intro f' i h0 h1 h2 h3; omega
  | succ f ih =>
    intro f' i h0 h1 h2 h3 h4
    cases f' with
    | zero => omega
    | succ f' =>
      simp only [wayL]
      split
      · rfl
      · rename_i hne
        have hg := h.prev hn h0 h1 h2 hne
        have hlt := hg.lt hn
        have hp := hg.pos
        have htw := hg.tower hn
        rw [ih f' _ htw.1 htw.2 hp (by omega) (by omega)]
structure WV (n : NetP) (l : List FogD) (a : Int) (first : List Int) (b i : Int) (R : List Int) : Prop where
  tow : 0 ≤ i ∧ i ≤ (n.towers.length : Int) - 1
  pos : 0 ≤ gI first i
  way : ∃ r, R = i :: r ∧ wayL n l first a 20000 i ++ r = wayL n l first a 20000 b
  len : R.length + (gI first i).toNat ≤ 1 + (gI first b).toNat
theorem WV.start {n : NetP} {l : List FogD} {a b t : Int} (hw : WayAsk n l a b t) (h0 : 0 ≤ gI (arrOf n l a t) b) : WV n l a (arrOf n l a t) b b [b] := ⟨hw.hb, h0, ⟨[], rfl, by simp⟩, by simp⟩
theorem WV.step {n : NetP} {l : List FogD} {a b t i k : Int} {R : List Int} (hw : WayAsk n l a b t) (h : WV n l a (arrOf n l a t) b i R) (hne : i ≠ a) (hk : prevOf n l (arrOf n l a t) i = k) : WV n l a (arrOf n l a t) b k (k :: R) ∧ (gI (arrOf n l a t) k).toNat < (gI (arrOf n l a t) i).toNat := by
 obtain ⟨r, hr, hwy⟩ := h.way
 have hg := hw.arr.prev hw.hn h.tow.1 h.tow.2 h.pos hne
 have hle := hw.le i
 rw [hk] at hg
 have hlt := hg.lt hw.hn
 have hp := hg.pos
 have htw := hg.tower hw.hn
 refine ⟨⟨htw, hp, ⟨R, rfl, ?_⟩, by have := h.len; simp only [List.length_cons]; omega⟩, by omega⟩
 rw [← hwy, hr]
 have e : wayL n l (arrOf n l a t) a 20000 i = wayL n l (arrOf n l a t) a 19999 k ++ [i] := by rw [wayL, if_neg hne, hk]
 rw [e, wayL_fuel hw.hn hw.arr 19999 20000 k htw.1 htw.2 hp (by omega) (by omega)]
 simp
theorem WV.ends {n : NetP} {l : List FogD} {a b i : Int} {first R : List Int} (h : WV n l a first b i R) (he : i = a) : R = wayL n l first a 20000 b := by
 obtain ⟨r, hr, hwy⟩ := h.way
 rw [← hwy, hr, he]
 have : wayL n l first a 20000 a = [a] := by rw [wayL, if_pos rfl]
 rw [this]; rfl
noncomputable def wayOf (n : NetP) (l : List FogD) (a b t : Int) : List Int × Bool := if WayAsk n l a b t ∧ 0 ≤ gI (arrOf n l a t) b then (wayL n l (arrOf n l a t) a 20000 b, true) else ([], false)
theorem wayOf_no {n : NetP} {l : List FogD} {a b t : Int} (h : ¬ WayAsk n l a b t) : wayOf n l a b t = ([], false) := by rw [wayOf, if_neg fun hc => h hc.1]
theorem wayOf_neg {n : NetP} {l : List FogD} {a b t x : Int} (hx : (arrOf n l a t)[b.toNat]? = some x) (h : x < 0) : wayOf n l a b t = ([], false) := by
 have e := gI_at hx
 rw [wayOf, if_neg fun hc => by omega]
theorem wayOf_yes {n : NetP} {l : List FogD} {a b t x : Int} {R : List Int} (hw : WayAsk n l a b t) (hx : (arrOf n l a t)[b.toNat]? = some x) (h : ¬ x < 0) (hR : R = wayL n l (arrOf n l a t) a 20000 b) : wayOf n l a b t = (R, true) := by
 have e := gI_at hx
 rw [wayOf, if_pos ⟨hw, by omega⟩, hR]
/-- what the inner search of the first program finds -/
theorem good_at {n : NetP} (hn : NetOk n) {l : List FogD} {first : List Int} {i : Int} {k : Nat} {x y : Int} (hx : first[k]? = some x) (hy : first[i.toNat]? = some y) (h1 : lkI n (k : Int) i ≥ 0) (h2 : x ≥ 0) (h3 : over l (lkI n (k : Int) i) (lk n (lkI n (k : Int) i)) x = y) : Good n l first i (k : Int) := by
 have e1 := gI_get hx
 have e2 := gI_at hy
 exact (good_lk hn).2 ⟨h1, by omega, by rw [e1, e2]; exact h3⟩
abbrev NoGood (n : NetP) (l : List FogD) (first : List Int) (i : Int) (k : Nat) : Prop := ∀ q, 0 ≤ q → q < (k : Int) → ¬ Good n l first i q
theorem noGood_succ {n : NetP} {l : List FogD} {first : List Int} {i : Int} {k : Nat} (h : NoGood n l first i k) (hk : ¬ Good n l first i (k : Int)) : NoGood n l first i (k + 1) := by
  intro q h0 hq hg
  by_cases e : q = (k : Int)
  · subst e; exact hk hg
  · exact h q h0 (by omega) hg
theorem noGood1 {n : NetP} (hn : NetOk n) {l : List FogD} {first : List Int} {i : Int} {k : Nat} (h : NoGood n l first i k) (h1 : ¬ lkI n (k : Int) i ≥ 0) : NoGood n l first i (k + 1) := noGood_succ h fun hg => h1 ((good_lk hn).1 hg).1
theorem noGood2 {n : NetP} (hn : NetOk n) {l : List FogD} {first : List Int} {i : Int} {k : Nat} {x : Int} (h : NoGood n l first i k) (hx : first[k]? = some x) (h1 : ¬ x ≥ 0) : NoGood n l first i (k + 1) := noGood_succ h fun hg => by
 have := ((good_lk hn).1 hg).2.1
 rw [gI_get hx] at this; omega
theorem noGood3 {n : NetP} (hn : NetOk n) {l : List FogD} {first : List Int} {i : Int} {k : Nat} {x y : Int} (h : NoGood n l first i k) (hx : first[k]? = some x) (hy : first[i.toNat]? = some y) (h1 : ¬ over l (lkI n (k : Int) i) (lk n (lkI n (k : Int) i)) x = y) : NoGood n l first i (k + 1) := noGood_succ h fun hg => by
 have := ((good_lk hn).1 hg).2.2
 rw [gI_get hx, gI_at hy] at this; exact h1 this
theorem noGood_all {n : NetP} {l : List FogD} {a b t i : Int} {R : List Int} {k : Nat} {P : Prop} (hw : WayAsk n l a b t) (h : WV n l a (arrOf n l a t) b i R) (hne : i ≠ a) (hg : NoGood n l (arrOf n l a t) i k) (hk : n.towers.length ≤ k) : P := by
 obtain ⟨p, hp⟩ := hw.arr.good h.tow.1 h.tow.2 h.pos hne
 have htw := hp.tower hw.hn
 exact (hg p htw.1 (by omega) hp).elim
/-- what the search of the second program finds -/
structure Bst (n : NetP) (l : List FogD) (first : List Int) (i : Int) (m : Nat) (c : Int) : Prop where
 bd : -1 ≤ c
 good : 0 ≤ c → Good n l first i c
 least : ∀ (k : Nat) (x : LinkD) (p : Int), k < m → n.links[k]? = some x → othr x i = p → 0 ≤ p → 0 ≤ gI first p → over l (k : Int) x (gI first p) = gI first i → 0 ≤ c ∧ c ≤ p
theorem Bst.start (n : NetP) (l : List FogD) (first : List Int) (i : Int) : Bst n l first i 0 (-1) := ⟨by omega, fun h => by omega, fun k x p hk => by omega⟩
theorem Bst.keep {n : NetP} {l : List FogD} {first : List Int} {i c : Int} {m : Nat} (h : Bst n l first i m c) {x : LinkD} (hx : n.links[m]? = some x) (hn : 0 ≤ othr x i → 0 ≤ gI first (othr x i) → over l (m : Int) x (gI first (othr x i)) = gI first i → 0 ≤ c ∧ c ≤ othr x i) : Bst n l first i (m + 1) c := by
  refine ⟨h.bd, h.good, fun k y p hk hy hp h0 h1 h2 => ?_⟩
  by_cases e : k = m
  · subst e; rw [hx] at hy; obtain rfl := Option.some.inj hy; subst hp; exact hn h0 h1 h2
  · exact h.least k y p (by omega) hy hp h0 h1 h2
theorem othr_btw {n : NetP} (hn : NetOk n) {k : Nat} {x : LinkD} (hx : n.links[k]? = some x) {i p : Int} (hp : othr x i = p) (h0 : 0 ≤ p) : btw p i x = true := by
  have := hn.at hx
  unfold othr at hp
  simp only [btw, decide_eq_true_eq]
  split at hp
  · right; omega
  · split at hp
    · left; omega
    · omega
theorem btw_othr {n : NetP} (hn : NetOk n) {k : Nat} {x : LinkD} (hx : n.links[k]? = some x) {i p : Int} (h : btw p i x = true) : othr x i = p := by
  have := hn.at hx
  simp only [btw, decide_eq_true_eq] at h
  unfold othr
  split
  · omega
  · split <;> omega
theorem Bst.take {n : NetP} (hn : NetOk n) {l : List FogD} {first : List Int} {i c : Int} {m : Nat} (h : Bst n l first i m c) {x : LinkD} (hx : n.links[m]? = some x) {v w : Int} (h0 : othr x i ≥ 0) (hv : first[(othr x i).toNat]? = some v) (hv0 : v ≥ 0) (hw : first[i.toNat]? = some w) (ho : over l (m : Int) (lk n (m : Int)) v = w) (hb : c < 0 ∨ othr x i < c) : Bst n l first i (m + 1) (othr x i) := by
  have e1 := gI_at hv
  have e2 := gI_at hw
  rw [lk_get hx] at ho
  refine ⟨by omega, fun _ => ⟨by omega, m, x, hx, othr_btw hn hx rfl h0, by rw [e1, e2]; exact ho⟩, fun k y p hk hy hp g0 g1 g2 => ?_⟩
  by_cases e : k = m
  · subst e; rw [hx] at hy; obtain rfl := Option.some.inj hy; omega
  · have := h.least k y p (by omega) hy hp g0 g1 g2
    omega
theorem Bst.keep1 {n : NetP} {l : List FogD} {first : List Int} {i c : Int} {m : Nat} (h : Bst n l first i m c) {x : LinkD} (hx : n.links[m]? = some x) (h0 : ¬ othr x i ≥ 0) : Bst n l first i (m + 1) c := h.keep hx fun g => absurd g h0
theorem Bst.keep2 {n : NetP} {l : List FogD} {first : List Int} {i c : Int} {m : Nat} (h : Bst n l first i m c) {x : LinkD} (hx : n.links[m]? = some x) {v : Int} (hv : first[(othr x i).toNat]? = some v) (hv0 : ¬ v ≥ 0) : Bst n l first i (m + 1) c := h.keep hx fun _ g => by
 have e1 := gI_at hv; omega
theorem Bst.keep3 {n : NetP} {l : List FogD} {first : List Int} {i c : Int} {m : Nat} (h : Bst n l first i m c) {x : LinkD} (hx : n.links[m]? = some x) {v w : Int} (hv : first[(othr x i).toNat]? = some v) (hw : first[i.toNat]? = some w) (ho : ¬ over l (m : Int) (lk n (m : Int)) v = w) : Bst n l first i (m + 1) c := h.keep hx fun _ _ g => by
 rw [gI_at hv, gI_at hw] at g
 rw [lk_get hx] at ho; exact absurd g ho
theorem Bst.keep4 {n : NetP} {l : List FogD} {first : List Int} {i c : Int} {m : Nat} (h : Bst n l first i m c) {x : LinkD} (hx : n.links[m]? = some x) (h1 : ¬ c < 0) (h2 : ¬ othr x i < c) : Bst n l first i (m + 1) c := h.keep hx fun _ _ _ => by omega
theorem Bst.ends {n : NetP} (hn : NetOk n) {l : List FogD} {first : List Int} {i c : Int} {m : Nat} (h : Bst n l first i m c) (hm : n.links.length ≤ m) (he : ∃ p, Good n l first i p) : prevOf n l first i = c := by
 have via : ∀ p, Good n l first i p → 0 ≤ c ∧ c ≤ p := by
  intro p hp
  obtain ⟨k, x, hx, hb, ho⟩ := hp.out
  have hk := (List.getElem?_eq_some_iff.1 hx).1
  exact h.least k x p (by omega) hx (btw_othr hn hx hb) (hp.tower hn).1 hp.pos ho
 obtain ⟨p, hp⟩ := he
 have h0 := (via p hp).1
 exact prevOf_good h0 (h.good h0) fun q _ hq hg => by have := (via q hg).2; omega
/-- turning a list around -/
structure RevTo (l ll : List Int) (i : Nat) : Prop where
 len : ll.length = l.length
 get : ∀ q, q < l.length → ll[q]? = if q < i ∨ l.length - i ≤ q then l[l.length - 1 - q]? else l[q]?
theorem RevTo.start (l : List Int) : RevTo l l 0 := ⟨rfl, fun q hq => by rw [if_neg (by omega)]⟩
theorem RevTo.step {l ll : List Int} {i : Nat} (h : RevTo l ll i) {x y : Int} (hi : i < l.length - 1 - i) (hx : ll[i]? = some x) (hy : ll[l.length - 1 - i]? = some y) : RevTo l ((ll.set i y).set (l.length - 1 - i) x) (i + 1) := by
  have hl := h.len
  have gx := h.get i (by omega)
  have gy := h.get (l.length - 1 - i) (by omega)
  rw [if_neg (by omega), hx] at gx
  rw [if_neg (by omega), hy] at gy
  refine ⟨by simp [hl], fun q hq => ?_⟩
  by_cases e1 : q = l.length - 1 - i
  · subst e1
    rw [List.getElem?_set_self (by simp; omega), if_pos (by omega), gx]
    congr 1; omega
  · rw [List.getElem?_set_ne (Ne.symm e1)]
    by_cases e2 : q = i
    · subst e2
      rw [List.getElem?_set_self (by omega), if_pos (by omega), gy]
    · rw [List.getElem?_set_ne (Ne.symm e2), h.get q hq]
      by_cases e3 : q < i ∨ l.length - i ≤ q
      · rw [if_pos e3, if_pos (by omega)]
      · rw [if_neg e3, if_neg (by omega)]
theorem RevTo.ends {l ll : List Int} {i : Nat} (h : RevTo l ll i) (hi : ¬ (i : Int) < (l.length : Int) - 1 - (i : Int)) : ll = l.reverse := by
  apply List.ext_getElem?
  intro q
  by_cases hq : q < l.length
  · rw [h.get q hq, List.getElem?_reverse hq]
    split
    · rfl
    · congr 1; omega
  · rw [List.getElem?_eq_none (by rw [h.len]; omega), List.getElem?_eq_none (by simp; omega)]
theorem firstF_congr {α : Type} {p q : α → Bool} : ∀ {l : List α} {i : Nat}, (∀ x ∈ l, p x = q x) → firstF p l i = firstF q l i
  | [], i, h => rfl
  | x :: l, i, h => by
    simp only [firstF]
    rw [h x (List.mem_cons_self ..), firstF_congr (l := l) (i := i + 1) fun y hy => h y (List.mem_cons_of_mem _ hy)]
end Go.Proofs.Ytgbaonaopkdlpaa



/- Ways found from their end. Condition: none. Printed in part by a program. -/
namespace Go.Proofs.Ytgbaonaopkdlpaa
open Go.Vc
set_option linter.all false

theorem lkI_min {n : NetP} (hn : NetOk n) (a b : Int) : firstF (fun x : LinkD => decide (x.a = (if b < a then b else a) ∧ x.b = (if b > a then b else a))) n.links 0 = lkI n a b := by
 refine firstF_congr fun x hx => ?_
 obtain ⟨i, hi, rfl⟩ := List.getElem_of_mem hx
 have := hn.at (List.getElem?_eq_getElem hi)
 simp only [btw, decide_eq_decide]
 split <;> split <;> omega
theorem lkI_end {n : NetP} {a b : Int} {k : Nat} (hF : lkI n a b = firstF (btw a b) (n.links.drop k) k) (hk : n.links.length ≤ k) : lkI n a b = -1 := by
 rw [hF, List.drop_of_length_le hk]; rfl
theorem lkI_hit {n : NetP} {a b : Int} {k : Nat} {x : LinkD} (hF : lkI n a b = firstF (btw a b) (n.links.drop k) k) (hx : n.links[k]? = some x) (h : (x.a = a ∧ x.b = b) ∨ (x.a = b ∧ x.b = a)) : lkI n a b = (k : Int) := by
 rw [hF, drop_at hx, firstF, btw, decide_eq_true h]; rfl
theorem lkI_miss {n : NetP} {a b : Int} {k : Nat} {x : LinkD} (hF : lkI n a b = firstF (btw a b) (n.links.drop k) k) (hx : n.links[k]? = some x) (h : ¬ ((x.a = a ∧ x.b = b) ∨ (x.a = b ∧ x.b = a))) : lkI n a b = firstF (btw a b) (n.links.drop (k + 1)) (k + 1) := by
 rw [hF, drop_at hx, firstF, btw, decide_eq_false h]; rfl

theorem slices_IndexFunc_Limpl_Link_impl_Link_ok (v_l : Value) (l : List LinkD) (g : Nat) (fs cs : Array Value) (p : LinkD → Bool) (h : Heap) (s_l : Sl h v_l l) (hc : ∀ x ∈ l, ∀ h2, Ext h h2 → Cn g (fs.toList ++ [.agg #[.int .i64 x.a, .int .i64 x.b, .int .i64 x.delay]] ++ cs.toList) h2 fun r h' => r = .bool (p x) ∧ Ext h2 h') : Cn f_slices_IndexFunc_Limpl_Link_impl_Link [v_l, .func (.func g) fs cs] h fun v h' => v = .int .i64 (firstF p l 0) ∧ Ext h h' := by
 have l63_l := s_l.len63
 refine calls_of r_slices_IndexFunc_Limpl_Link_impl_Link ?_
 refine v_seq <| v_ops <| s_pq (.int .i64 0) <| s_nil <| p_seqN <| v_seq <| v_seq <| v_ops <| s_pq v_l <| s_pure (.int .i64 (l.length : Int)) (fun _ q => s_l.lenVC q) <| s_pq (.int .i64 0) <| s_nil <| p_seqN <| v_block <| v_loop1 (α := Nat) (fun k => [(0, v_l), (1, .func (.func g) fs cs), (7, .int .i64 (l.length : Int)), (8, .int .i64 (k : Int))]) (fun k hh => Ext h hh ∧ k ≤ l.length ∧ firstF p l 0 = firstF p (l.drop k) k) (fun k => l.length - k) 0 ⟨rfl, rfl, rfl, rfl⟩ ⟨(Ext.refl h), (by simp)⟩ ?_
 rintro k R2 h1 ⟨Eh, ⟨hk, hF⟩⟩
 have zEh := Eh.size
 have f4 := s_l.ext Eh
 refine v_seq <| v_ops <| s_pq (.bool (decide ((k : Int) < (l.length : Int)))) <| s_nil <| p_seqN <| v_seq ?_
 refine v_cond rfl (fun c5 => ?_) (fun c5 => ?_)
 ·
  refine v_skip <| p_seqN <| v_seq <| v_block <| v_seq <| v_ops <| s_pq (.int .i64 (k : Int)) <| s_pq (.int .i64 (k : Int)) <| s_nil <| p_seqN <| v_seq <| v_ops <| s_pq (.func (.func g) fs cs) <| s_pq v_l <| s_pq (.int .i64 (k : Int)) ?_
  have hk6 : k < l.length := (by first | omega | (simp; omega))
  obtain ⟨x7, hx7⟩ : ∃ x, l[k]? = some x := ⟨_, List.getElem?_eq_getElem hk6⟩
  refine s_pure (.pointer (some ⟨sblk v_l, soff v_l + k * 3, none⟩)) (fun _ q => f4.idx (k := k) rfl hk6 q) <| s_load (.agg #[.int .i64 x7.a, .int .i64 x7.b, .int .i64 x7.delay]) (fun _ q => f4.loadN hx7 rfl q) <| s_callv (fs.toList ++ [.agg #[.int .i64 x7.a, .int .i64 x7.b, .int .i64 x7.delay]] ++ cs.toList) rfl rfl (hc x7 (List.mem_of_getElem? hx7) _ Eh) ?_
  rintro _ h8 ⟨rfl, eh8⟩
  have E9 := Eh.trans eh8
  have z10 := eh8.size
  refine s_nil <| p_seqN ?_
  refine v_cond rfl (fun c11 => ?_) (fun c11 => ?_)
  ·
   refine v_seq <| v_ops <| s_pq (.int .i64 (k : Int)) <| s_pq (.int .i64 (k : Int)) <| s_nil <| p_seqN <| v_ret <| p_blkR <| p_seqR <| p_lpR <| p_blkR <| p_seqR <| p_ret [.int .i64 (k : Int)] (.int .i64 (k : Int)) (fun _ q => q) rfl ?_
   have ho : firstF p l 0 = (k : Int) := by first | (rw [hF, drop_at (by assumption), firstF]; simp [*]; done) | (rw [hF, List.drop_of_length_le (by omega), firstF])
   exact ⟨by first | (rw [ho]; done) | rfl, E9⟩
  refine v_skip <| p_blkN <| p_seqN <| v_ops <| s_pure (.int .i64 ((k : Int) + 1)) (fun _ q => ArithVC.mk (by omega) q) <| s_pq (.int .i64 ((k : Int) + 1)) <| s_nil ?_
  exact p_lpN ⟨k + 1, ⟨rfl, rfl, rfl, rfl⟩, ⟨E9, (by exact ⟨by omega, by rw [hF, drop_at (by assumption), firstF]; simp [*]⟩)⟩, by omega⟩
 refine v_exit <| p_seqX <| p_lpX <| p_blkX <| p_seqN <| v_seq <| v_ops <| s_pq (.int .i64 (-1)) <| s_nil <| p_seqN <| v_ret <| p_ret [.int .i64 (-1)] (.int .i64 (-1)) (fun _ q => q) rfl ?_
 have ho : firstF p l 0 = (-1) := by first | (rw [hF, drop_at (by assumption), firstF]; simp [*]; done) | (rw [hF, List.drop_of_length_le (by omega), firstF])
 exact ⟨by first | (rw [ho]; done) | rfl, Eh⟩

theorem impl_linkIndex_1_ok (x : LinkD) (a : Int) (p_a : Nat) (t_a : TypeId) (b : Int) (p_b : Nat) (t_b : TypeId) (h : Heap) (bx_a : Bx h p_a [.int .i64 a] t_a) (bx_b : Bx h p_b [.int .i64 b] t_b) : Cn f_impl_linkIndex_1 [.agg #[.int .i64 x.a, .int .i64 x.b, .int .i64 x.delay], .pointer (some ⟨p_a, 0, none⟩), .pointer (some ⟨p_b, 0, none⟩)] h fun v h' => v = .bool (decide (x.a = (if b < a then b else a) ∧ x.b = (if b > a then b else a))) ∧ Ext h h' := by
 have lbx_a := bx_a.lt
 have lbx_b := bx_b.lt
 refine calls_of r_impl_linkIndex_1 ?_
 refine v_seq <| v_ops ?_
 refine s_box [.int .i64 x.a, .int .i64 x.b, .int .i64 x.delay] rfl (fun h2 b1 hbb1 hzb1 eh2 bxb1 => ?_)
 have E3 := (Ext.refl h).trans eh2
 have z4 := eh2.size
 have lbb1 := bxb1.lt
 refine s_pq (.bool false) <| s_nil <| p_seqN <| v_seq <| v_ops <| s_pq (.pointer (some ⟨b1, 0, none⟩)) <| s_load (.int .i64 x.a) (fun _ q => bxb1.load rfl q) ?_
 have f5 := (bx_a.ext eh2)
 refine s_load (.int .i64 a) (fun _ q => f5.load rfl q) ?_
 have f6 := (bx_b.ext eh2)
 refine s_load (.int .i64 b) (fun _ q => f6.load rfl q) <| s_pq (.int .i64 (if b < a then b else a)) <| s_pq (.bool (x.a == (if b < a then b else a))) <| s_pq (.bool (x.a == (if b < a then b else a))) ?_
 refine s_splitT rfl (fun c7 => ?_) (fun c7 => ?_)
 ·
  refine s_run rfl <| s_pq (.pointer (some ⟨b1, 1, none⟩)) <| s_run rfl <| s_load (.int .i64 x.b) (fun _ q => bxb1.load rfl q) <| s_run rfl <| s_load (.int .i64 a) (fun _ q => f5.load rfl q) <| s_run rfl <| s_load (.int .i64 b) (fun _ q => f6.load rfl q) <| s_run rfl <| s_pq (.int .i64 (if b > a then b else a)) <| s_run rfl <| s_pq (.bool (x.b == (if b > a then b else a))) <| s_pq (.bool (x.b == (if b > a then b else a))) <| s_pq (.bool (x.b == (if b > a then b else a))) <| s_nil <| p_seqN <| v_ret ?_
  refine p_ret [.bool (x.b == (if b > a then b else a))] (.bool (x.b == (if b > a then b else a))) (fun _ q => q) rfl ?_
  have ho : (decide (x.a = (if b < a then b else a) ∧ x.b = (if b > a then b else a))) = (x.b == (if b > a then b else a)) := by first | (simp [*]; done) | (rw [Bool.eq_iff_iff]; simp [*])
  exact ⟨by first | (rw [ho]; done) | rfl, E3⟩
 refine s_pass rfl <| s_pass rfl <| s_pass rfl <| s_pass rfl <| s_pass rfl <| s_pass rfl <| s_pq (.bool false) <| s_pq (.bool false) <| s_nil <| p_seqN <| v_ret <| p_ret [.bool false] (.bool false) (fun _ q => q) rfl ?_
 have ho : (decide (x.a = (if b < a then b else a) ∧ x.b = (if b > a then b else a))) = false := by first | (simp [*]; done) | (rw [Bool.eq_iff_iff]; simp [*])
 exact ⟨by first | (rw [ho]; done) | rfl, E3⟩

theorem impl_linkIndex_ok (n : NetP) (v_n_towers : Value) (v_n_links : Value) (a : Int) (b : Int) (h : Heap) (s_n_towers : Sl h v_n_towers n.towers) (s_n_links : Sl h v_n_links n.links) (hn : NetOk n) : Cn f_impl_linkIndex [.agg #[v_n_towers, v_n_links], .int .i64 a, .int .i64 b] h fun v h' => v = .int .i64 (lkI n a b) ∧ Ext h h' := by
 have l63_n_towers := s_n_towers.len63
 have l63_n_links := s_n_links.len63
 refine calls_of r_impl_linkIndex ?_
 refine v_seq <| v_ops ?_
 refine s_box [v_n_towers, v_n_links] rfl (fun h2 b1 hbb1 hzb1 eh2 bxb1 => ?_)
 have E3 := (Ext.refl h).trans eh2
 have z4 := eh2.size
 have lbb1 := bxb1.lt
 refine s_box [.int .i64 a] rfl (fun h6 b5 hbb5 hzb5 eh6 bxb5 => ?_)
 have E7 := E3.trans eh6
 have z8 := eh6.size
 have lbb5 := bxb5.lt
 refine s_box [.int .i64 b] rfl (fun h10 b9 hbb9 hzb9 eh10 bxb9 => ?_)
 have E11 := E7.trans eh10
 have z12 := eh10.size
 have lbb9 := bxb9.lt
 refine s_pq (.int .i64 0) <| s_nil <| p_seqN <| v_seq <| v_ops <| s_pq (.pointer (some ⟨b1, 1, none⟩)) ?_
 have f13 := ((bxb1.ext eh6).ext eh10)
 refine s_load v_n_links (fun _ q => f13.load rfl q) <| s_pq (.func (.func 79) #[] #[.pointer (some ⟨b5, 0, none⟩), .pointer (some ⟨b9, 0, none⟩)]) ?_
 have f14 := (((s_n_links.ext eh2).ext eh6).ext eh10)
 have f15 := (bxb5.ext eh10)
 refine s_call [v_n_links, .func (.func 79) #[] #[.pointer (some ⟨b5, 0, none⟩), .pointer (some ⟨b9, 0, none⟩)]] rfl (slices_IndexFunc_Limpl_Link_impl_Link_ok v_n_links n.links 79 #[] #[.pointer (some ⟨b5, 0, none⟩), .pointer (some ⟨b9, 0, none⟩)] (fun x : LinkD => (decide (x.a = (if b < a then b else a) ∧ x.b = (if b > a then b else a)))) _ f14  (fun x hx h2 e2 => impl_linkIndex_1_ok x a b5 3 b b9 3 h2 (f15.ext e2) (bxb9.ext e2))) ?_
 rintro _ h16 ⟨rfl, eh16⟩
 have E17 := E11.trans eh16
 have z18 := eh16.size
 refine s_pq (.int .i64 (firstF (fun x : LinkD => (decide (x.a = (if b < a then b else a) ∧ x.b = (if b > a then b else a)))) n.links 0)) <| s_nil <| p_seqN <| v_ret <| p_ret [.int .i64 (firstF (fun x : LinkD => (decide (x.a = (if b < a then b else a) ∧ x.b = (if b > a then b else a)))) n.links 0)] (.int .i64 (firstF (fun x : LinkD => (decide (x.a = (if b < a then b else a) ∧ x.b = (if b > a then b else a)))) n.links 0)) (fun _ q => q) rfl ?_
 have ho : (lkI n a b) = (firstF (fun x : LinkD => (decide (x.a = (if b < a then b else a) ∧ x.b = (if b > a then b else a)))) n.links 0) := by exact (lkI_min hn a b).symm
 exact ⟨by first | (rw [ho]; done) | rfl, E17⟩

set_option maxRecDepth 10000 in
set_option maxHeartbeats 4000000 in
theorem spec_neLink_ok (n : NetP) (v_n_towers : Value) (v_n_links : Value) (a : Int) (b : Int) (h : Heap) (s_n_towers : Sl h v_n_towers n.towers) (s_n_links : Sl h v_n_links n.links) : Cn f_spec_neLink [.agg #[v_n_towers, v_n_links], .int .i64 a, .int .i64 b] h fun v h' => v = .int .i64 (lkI n a b) ∧ Ext h h' := by
 have l63_n_towers := s_n_towers.len63
 have l63_n_links := s_n_links.len63
 refine calls_of r_spec_neLink ?_
 refine v_seq <| v_ops ?_
 refine s_box [v_n_towers, v_n_links] rfl (fun h2 b1 hbb1 hzb1 eh2 bxb1 => ?_)
 have E3 := (Ext.refl h).trans eh2
 have z4 := eh2.size
 have lbb1 := bxb1.lt
 refine s_pq (.int .i64 0) <| s_nil <| p_seqN <| v_seq <| v_seq <| v_ops <| s_pq (.pointer (some ⟨b1, 1, none⟩)) <| s_load v_n_links (fun _ q => bxb1.load rfl q) <| s_pure (.int .i64 (n.links.length : Int)) (fun _ q => s_n_links.lenVC q) <| s_pq (.int .i64 0) <| s_nil <| p_seqN <| v_block <| v_loop1 (α := Nat) (fun k => [(1, .int .i64 a), (2, .int .i64 b), (10, v_n_links), (11, .int .i64 (n.links.length : Int)), (12, .int .i64 (k : Int))]) (fun k hh => Ext h hh ∧ k ≤ n.links.length ∧ lkI n a b = firstF (btw a b) (n.links.drop k) k) (fun k => n.links.length - k) 0 ⟨rfl, rfl, rfl, rfl, rfl⟩ ⟨E3, (by exact ⟨by omega, rfl⟩)⟩ ?_
 rintro k R6 h5 ⟨Eh, ⟨hk, hF⟩⟩
 have zEh := Eh.size
 have f9 := s_n_links.ext Eh
 refine v_seq <| v_ops <| s_pq (.bool (decide ((k : Int) < (n.links.length : Int)))) <| s_nil <| p_seqN <| v_seq ?_
 refine v_cond rfl (fun c10 => ?_) (fun c10 => ?_)
 ·
  refine v_skip <| p_seqN <| v_seq <| v_block <| v_seq <| v_ops <| s_pq (.int .i64 (k : Int)) ?_
  have hk11 : k < n.links.length := (by first | omega | (simp; omega))
  obtain ⟨x12, hx12⟩ : ∃ x, n.links[k]? = some x := ⟨_, List.getElem?_eq_getElem hk11⟩
  refine s_pure (.pointer (some ⟨sblk v_n_links, soff v_n_links + k * 3, none⟩)) (fun _ q => f9.idx (k := k) rfl hk11 q) <| s_load (.agg #[.int .i64 x12.a, .int .i64 x12.b, .int .i64 x12.delay]) (fun _ q => f9.loadN hx12 rfl q) ?_
  refine s_new (fun h14 b13 hbb13 hzb13 eh14 bxb13 => ?_)
  have E15 := Eh.trans eh14
  have z16 := eh14.size
  have lbb13 := bxb13.lt
  refine s_pq (.int .i64 (k : Int)) ?_
  refine s_stBx (.agg #[.int .i64 x12.a, .int .i64 x12.b, .int .i64 x12.delay]) [.int .i64 x12.a, .int .i64 x12.b, .int .i64 x12.delay] [.int .i64 x12.a, .int .i64 x12.b, .int .i64 x12.delay] bxb13 rfl rfl rfl rfl (by simp) (all_cons rfl (all_cons rfl (all_cons rfl all_nil))) rfl (fun h17 mh17 sh17 bxx18 => ?_)
  have E19 := E15.mod mh17 (fun b hb => by simp at hb; omega)
  refine s_nil <| p_seqN <| v_seq <| v_ops <| s_pq (.pointer (some ⟨b13, 0, none⟩)) <| s_load (.int .i64 x12.a) (fun _ q => bxx18.load rfl q) <| s_pq (.int .i64 a) <| s_pq (.bool (x12.a == a)) <| s_pq (.bool (x12.a == a)) ?_
  refine s_splitT rfl (fun c20 => ?_) (fun c20 => ?_)
  ·
   refine s_run rfl <| s_pq (.pointer (some ⟨b13, 1, none⟩)) <| s_run rfl <| s_load (.int .i64 x12.b) (fun _ q => bxx18.load rfl q) <| s_run rfl <| s_pq (.int .i64 b) <| s_run rfl <| s_pq (.bool (x12.b == b)) <| s_pq (.bool (x12.b == b)) <| s_pq (.bool (x12.b == b)) ?_
   refine s_splitT rfl (fun c21 => ?_) (fun c21 => ?_)
   ·
    refine s_pass rfl <| s_pass rfl <| s_pass rfl <| s_pass rfl <| s_pass rfl <| s_splitU rfl <| s_passU rfl <| s_passU rfl <| s_passU rfl <| s_passU rfl <| s_pass rfl <| s_pq (.bool true) <| s_nil <| p_seqN <| v_condY rfl rfl <| v_seq <| v_ops <| s_pq (.int .i64 (k : Int)) <| s_pq (.int .i64 (k : Int)) <| s_nil <| p_seqN <| v_ret <| p_blkR <| p_seqR <| p_lpR <| p_blkR <| p_seqR <| p_ret [.int .i64 (k : Int)] (.int .i64 (k : Int)) (fun _ q => q) rfl ?_
    have ho : (lkI n a b) = (k : Int) := by first | exact lkI_hit hF (by assumption) (by omega) | exact lkI_end hF (by omega)
    exact ⟨by first | (rw [ho]; done) | rfl, E19⟩
   refine s_run rfl <| s_pq (.pointer (some ⟨b13, 0, none⟩)) <| s_run rfl <| s_load (.int .i64 x12.a) (fun _ q => bxx18.load rfl q) <| s_run rfl <| s_pq (.int .i64 b) <| s_run rfl <| s_pq (.bool (x12.a == b)) <| s_run rfl <| s_pq (.bool (x12.a == b)) ?_
   refine s_splitT rfl (fun c22 => ?_) (fun c22 => ?_)
   ·
    refine s_run rfl <| s_pq (.pointer (some ⟨b13, 1, none⟩)) <| s_run rfl <| s_load (.int .i64 x12.b) (fun _ q => bxx18.load rfl q) <| s_run rfl <| s_pq (.int .i64 a) <| s_run rfl <| s_pq (.bool (x12.b == a)) <| s_run rfl <| s_pq (.bool (x12.b == a)) <| s_pq (.bool (x12.b == a)) <| s_nil <| p_seqN ?_
    refine v_cond rfl (fun c23 => ?_) (fun c23 => ?_)
    ·
     refine v_seq <| v_ops <| s_pq (.int .i64 (k : Int)) <| s_pq (.int .i64 (k : Int)) <| s_nil <| p_seqN <| v_ret <| p_blkR <| p_seqR <| p_lpR <| p_blkR <| p_seqR <| p_ret [.int .i64 (k : Int)] (.int .i64 (k : Int)) (fun _ q => q) rfl ?_
     have ho : (lkI n a b) = (k : Int) := by first | exact lkI_hit hF (by assumption) (by omega) | exact lkI_end hF (by omega)
     exact ⟨by first | (rw [ho]; done) | rfl, E19⟩
    refine v_skip <| p_blkN <| p_seqN <| v_ops <| s_pure (.int .i64 ((k : Int) + 1)) (fun _ q => ArithVC.mk (by omega) q) <| s_pq (.int .i64 ((k : Int) + 1)) <| s_nil ?_
    exact p_lpN ⟨k + 1, ⟨rfl, rfl, rfl, rfl, rfl⟩, ⟨E19, (by exact ⟨by omega, lkI_miss hF (by assumption) (by omega)⟩)⟩, by omega⟩
   refine s_pass rfl <| s_pass rfl <| s_pass rfl <| s_pass rfl <| s_run rfl <| s_pq (.bool false) <| s_pq (.bool false) <| s_nil <| p_seqN <| v_condN rfl (by simp) <| v_skip <| p_blkN <| p_seqN <| v_ops <| s_pure (.int .i64 ((k : Int) + 1)) (fun _ q => ArithVC.mk (by omega) q) <| s_pq (.int .i64 ((k : Int) + 1)) <| s_nil ?_
   exact p_lpN ⟨k + 1, ⟨rfl, rfl, rfl, rfl, rfl⟩, ⟨E19, (by exact ⟨by omega, lkI_miss hF (by assumption) (by omega)⟩)⟩, by omega⟩
  refine s_pass rfl <| s_pass rfl <| s_pass rfl <| s_pass rfl <| s_pq (.bool false) <| s_pq (.bool false) <| s_splitN rfl (by simp) <| s_run rfl <| s_pq (.pointer (some ⟨b13, 0, none⟩)) <| s_run rfl <| s_load (.int .i64 x12.a) (fun _ q => bxx18.load rfl q) <| s_run rfl <| s_pq (.int .i64 b) <| s_run rfl <| s_pq (.bool (x12.a == b)) <| s_run rfl <| s_pq (.bool (x12.a == b)) ?_
  refine s_splitT rfl (fun c24 => ?_) (fun c24 => ?_)
  ·
   refine s_run rfl <| s_pq (.pointer (some ⟨b13, 1, none⟩)) <| s_run rfl <| s_load (.int .i64 x12.b) (fun _ q => bxx18.load rfl q) <| s_run rfl <| s_pq (.int .i64 a) <| s_run rfl <| s_pq (.bool (x12.b == a)) <| s_run rfl <| s_pq (.bool (x12.b == a)) <| s_pq (.bool (x12.b == a)) <| s_nil <| p_seqN ?_
   refine v_cond rfl (fun c25 => ?_) (fun c25 => ?_)
   ·
    refine v_seq <| v_ops <| s_pq (.int .i64 (k : Int)) <| s_pq (.int .i64 (k : Int)) <| s_nil <| p_seqN <| v_ret <| p_blkR <| p_seqR <| p_lpR <| p_blkR <| p_seqR <| p_ret [.int .i64 (k : Int)] (.int .i64 (k : Int)) (fun _ q => q) rfl ?_
    have ho : (lkI n a b) = (k : Int) := by first | exact lkI_hit hF (by assumption) (by omega) | exact lkI_end hF (by omega)
    exact ⟨by first | (rw [ho]; done) | rfl, E19⟩
   refine v_skip <| p_blkN <| p_seqN <| v_ops <| s_pure (.int .i64 ((k : Int) + 1)) (fun _ q => ArithVC.mk (by omega) q) <| s_pq (.int .i64 ((k : Int) + 1)) <| s_nil ?_
   exact p_lpN ⟨k + 1, ⟨rfl, rfl, rfl, rfl, rfl⟩, ⟨E19, (by exact ⟨by omega, lkI_miss hF (by assumption) (by omega)⟩)⟩, by omega⟩
  refine s_pass rfl <| s_pass rfl <| s_pass rfl <| s_pass rfl <| s_run rfl <| s_pq (.bool false) <| s_pq (.bool false) <| s_nil <| p_seqN <| v_condN rfl (by simp) <| v_skip <| p_blkN <| p_seqN <| v_ops <| s_pure (.int .i64 ((k : Int) + 1)) (fun _ q => ArithVC.mk (by omega) q) <| s_pq (.int .i64 ((k : Int) + 1)) <| s_nil ?_
  exact p_lpN ⟨k + 1, ⟨rfl, rfl, rfl, rfl, rfl⟩, ⟨E19, (by exact ⟨by omega, lkI_miss hF (by assumption) (by omega)⟩)⟩, by omega⟩
 refine v_exit <| p_seqX <| p_lpX <| p_blkX <| p_seqN <| v_seq <| v_ops <| s_pq (.int .i64 (-1)) <| s_nil <| p_seqN <| v_ret <| p_ret [.int .i64 (-1)] (.int .i64 (-1)) (fun _ q => q) rfl ?_
 have ho : (lkI n a b) = (-1) := by first | exact lkI_hit hF (by assumption) (by omega) | exact lkI_end hF (by omega)
 exact ⟨by first | (rw [ho]; done) | rfl, Eh⟩

theorem slices_Reverse_Lint_int_ok (v_l : Value) (l : List Int) (h : Heap) (s_l : SlO h v_l l) (bl : l.length ≤ 1000000) : Cn f_slices_Reverse_Lint_int [v_l] h fun v h' => v = .tuple #[] ∧ SlO h' v_l l.reverse ∧ Mod (blks v_l) h h' ∧ h'.size = h.size := by
 have l63_l := s_l.len63
 refine calls_of r_slices_Reverse_Lint_int ?_
 refine v_seq <| v_ops <| s_pq v_l <| s_pure (.int .i64 (l.length : Int)) (fun _ q => s_l.lenVC q) <| s_pure (.int .i64 ((l.length : Int) - 1)) (fun _ q => ArithVC.mk (by omega) q) <| s_pq (.int .i64 0) <| s_pq (.int .i64 ((l.length : Int) - 1)) <| s_nil <| p_seqN <| v_block <| v_loop3 (α := Nat) (β := Int) (γ := List Int) (fun i j ll => [(0, v_l), (2, .int .i64 (i : Int)), (3, .int .i64 j)]) (fun i j ll hh => Mod (blks v_l) h hh ∧ SlO hh v_l ll ∧ j = (l.length : Int) - 1 - (i : Int) ∧ i ≤ l.length ∧ RevTo l ll i ∧ hh.size = h.size) (fun i j ll => l.length - i) 0 ((l.length : Int) - 1) l ⟨rfl, rfl, rfl⟩ ⟨(Mod.refl (blks v_l) h), s_l, (by exact ⟨by omega, by omega, RevTo.start l, rfl⟩)⟩ ?_
 rintro i j ll R2 h1 ⟨Eh, s_l, ⟨hj, hi, hr, hsz⟩⟩
 have zEh := Eh.size
 have hll := hr.len
 refine v_seq <| v_seq <| v_ops <| s_pq (.int .i64 (i : Int)) <| s_pq (.int .i64 j) <| s_pq (.bool (decide ((i : Int) < j))) <| s_nil <| p_seqN ?_
 refine v_cond rfl (fun c4 => ?_) (fun c4 => ?_)
 ·
  refine v_skip <| p_seqN <| v_seq <| v_block <| v_drawF <| d_pq v_l <| d_pq (.int .i64 (i : Int)) <| d_pq v_l <| d_pq (.int .i64 j) <| d_pq v_l <| d_pq (.int .i64 j) ?_
  have hk5 : (l.length - 1 - i) < ll.length := (by first | omega | (simp; omega))
  obtain ⟨x6, hx6⟩ : ∃ x, ll[(l.length - 1 - i)]? = some x := ⟨_, List.getElem?_eq_getElem hk5⟩
  refine d_pureT (.pointer (some ⟨sblk v_l, soff v_l + (l.length - 1 - i) * 1, none⟩)) (fun _ q => s_l.idx (k := (l.length - 1 - i)) (by omega) hk5 q) <| d_pq v_l <| d_pq (.int .i64 (i : Int)) ?_
  have hk7 : i < ll.length := (by first | omega | (simp; omega))
  obtain ⟨x8, hx8⟩ : ∃ x, ll[i]? = some x := ⟨_, List.getElem?_eq_getElem hk7⟩
  refine d_pureT (.pointer (some ⟨sblk v_l, soff v_l + i * 1, none⟩)) (fun _ q => s_l.idx (k := i) rfl hk7 q) <| d_loadO (.int .i64 x6) (fun _ q => s_l.load1 hx6 rfl q) <| d_loadO (.int .i64 x8) (fun _ q => s_l.load1 hx8 rfl q) <| d_pureT (.pointer (some ⟨sblk v_l, soff v_l + i * 1, none⟩)) (fun _ q => s_l.idx (k := i) rfl hk7 q) <| d_eff ?_
  refine s_stSl (k := i) (j := 0) x6 (.int .i64 x6) [.int .i64 x6] s_l rfl rfl rfl rfl rfl hx8 (Nat.le_of_ble_eq_true rfl) rfl (all_cons rfl all_nil) (fun h9 mh9 sh9 s10 => ?_)
  have E11 := Eh.new mh9 (fun b hb => Or.inl hb)
  refine s_nil ⟨fun hl => (by cases hl), ?_⟩
  have hk12 : (l.length - 1 - i) < (ll.set i x6).length := (by first | omega | (simp; omega))
  obtain ⟨x13, hx13⟩ : ∃ x, (ll.set i x6)[(l.length - 1 - i)]? = some x := ⟨_, List.getElem?_eq_getElem hk12⟩
  refine d_pureT (.pointer (some ⟨sblk v_l, soff v_l + (l.length - 1 - i) * 1, none⟩)) (fun _ q => s10.idx (k := (l.length - 1 - i)) (by omega) hk12 q) <| d_eff ?_
  refine s_stSl (k := (l.length - 1 - i)) (j := 0) x8 (.int .i64 x8) [.int .i64 x8] s10 rfl rfl rfl rfl rfl hx13 (Nat.le_of_ble_eq_true rfl) rfl (all_cons rfl all_nil) (fun h14 mh14 sh14 s15 => ?_)
  have E16 := E11.new mh14 (fun b hb => Or.inl hb)
  refine s_nil ⟨fun hl => (by cases hl), ?_⟩
  refine d_done <| p_blkN <| p_seqN <| v_ops <| s_pq (.int .i64 (i : Int)) <| s_pure (.int .i64 ((i : Int) + 1)) (fun _ q => ArithVC.mk (by omega) q) <| s_pq (.int .i64 j) <| s_pure (.int .i64 (j - 1)) (fun _ q => ArithVC.mk (by omega) q) <| s_pq (.int .i64 ((i : Int) + 1)) <| s_pq (.int .i64 (j - 1)) <| s_nil ?_
  exact p_lpN ⟨i + 1, (j - 1), ((ll.set i x6).set (l.length - 1 - i) x8), ⟨rfl, rfl, rfl⟩, ⟨E16, (sl_eq s15 rfl), (by exact ⟨by omega, by omega, hr.step (by omega) (by assumption) (by assumption), by omega⟩)⟩, by omega⟩
 refine v_exit <| p_seqX <| p_lpX <| p_blkX <| p_end [] (.tuple #[]) (fun _ q => q) rfl ?_
 exact ⟨rfl, sl_eq s_l (hr.ends (by omega)), Eh, hsz⟩


theorem way_yes {n : NetP} {way : List Int} {k : Nat} (hl : 1 ≤ way.length ∧ way.length ≤ 16) (ha : AllIn 0 ((n.towers.length : Int) - 1) way) (h : WayTo n way k) (hk : way.length ≤ k) : WayOk n way := of_decide_eq_true (way_end hl ha h (by omega))
theorem along_ask {n : NetP} {l : List FogD} {way : List Int} {t : Int} (h : (alongOf n l way t).2.2 = true) : AlongAsk n l way t := by
  unfold alongOf at h
  split at h
  · assumption
  · cases h
theorem lk_of {n : NetP} {k : Int} {z : LinkD} (h0 : 0 ≤ k) (h1 : k ≤ (n.links.length : Int) - 1) (hz : n.links[k.toNat]? = some z) : lk n k = z := Option.some.inj ((lk_at h0 h1).symm.trans hz)
theorem al_wide2 {n : NetP} {l : List FogD} {way : List Int} {t : Int} (hA : AlongAsk n l way t) {k : Nat} {z u : Int} (hz : (linksOf n way)[k]? = some z) (hu : 0 ≤ u ∧ u ≤ 20000) :
  (0 ≤ z ∧ z ≤ (n.links.length : Int) - 1) ∧ (u < over l z (lk n z) u ∧ over l z (lk n z) u ≤ 30000) ∧ 1 ≤ (lk n z).delay ∧ (lk n z).delay ≤ 60 := by
 have hzb := hA.hw.links hA.hn hz
 have hok := hA.hn.at (lk_at hzb.1 hzb.2)
 have h1 := over_gt l z (x := lk n z) u hok.2.2.2.1
 have h2 := stF_le hA.hf z (lk n z).delay u
 refine ⟨hzb, ⟨h1, ?_⟩, hok.2.2.2⟩
 unfold over; omega
theorem al_wide {n : NetP} {l : List FogD} {way : List Int} {t : Int} (hA : AlongAsk n l way t) {k : Nat} {x y u : Int} (hx : way[k]? = some x) (hy : way[k + 1]? = some y) (hu : 0 ≤ u ∧ u ≤ 20000) :
  (0 ≤ lkI n x y ∧ lkI n x y ≤ (n.links.length : Int) - 1) ∧ (u < over l (lkI n x y) (lk n (lkI n x y)) u ∧ over l (lkI n x y) (lk n (lkI n x y)) u ≤ 30000) ∧ 1 ≤ (lk n (lkI n x y)).delay ∧ (lk n (lkI n x y)).delay ≤ 60 := al_wide2 hA (linksOf_at hx hy) hu
theorem al_step2 {n : NetP} {l : List FogD} {way : List Int} {t : Int} (hA : AlongAsk n l way t) {k : Nat} {z u : Int} {ws : List Int} {q : LinkD} (hs : (u, ws) = alTo n l ((linksOf n way).take k) t) (hz : (linksOf n way)[k]? = some z) (hq : n.links[z.toNat]? = some q) :
  (over l z (lk n z) u, ws ++ [over l z (lk n z) u - u - q.delay]) = alTo n l ((linksOf n way).take (k + 1)) t := by
 have hzb := hA.hw.links hA.hn hz
 rw [snoc_get hz, alTo_snoc, ← hs, alStep, lk_of hzb.1 hzb.2 hq]
theorem al_step {n : NetP} {l : List FogD} {way : List Int} {t : Int} (hA : AlongAsk n l way t) {k : Nat} {x y u : Int} {ws : List Int} {q : LinkD} (hs : (u, ws) = alTo n l ((linksOf n way).take k) t) (hx : way[k]? = some x) (hy : way[k + 1]? = some y) (hq : n.links[(lkI n x y).toNat]? = some q) :
  (over l (lkI n x y) (lk n (lkI n x y)) u, ws ++ [over l (lkI n x y) (lk n (lkI n x y)) u - u - q.delay]) = alTo n l ((linksOf n way).take (k + 1)) t := al_step2 hA hs (linksOf_at hx hy) hq
theorem linksOf_len (n : NetP) (way : List Int) : (linksOf n way).length = way.length - 1 := by rw [linksOf, linksTo_len]
theorem al_end {n : NetP} {l : List FogD} {way : List Int} {t : Int} (hA : AlongAsk n l way t) {k : Nat} {u : Int} {ws : List Int} (hs : (u, ws) = alTo n l ((linksOf n way).take k) t) (hk : way.length - 1 ≤ k) : alongOf n l way t = (u, ws, true) := by
 rw [List.take_of_length_le (by rw [linksOf_len]; exact hk)] at hs
 rw [along_yes hA, ← hs]
theorem al_bd {n : NetP} {l : List FogD} {way : List Int} {t : Int} (hA : AlongAsk n l way t) {k : Nat} (hk : k ≤ way.length - 1) : 0 ≤ (alTo n l ((linksOf n way).take k) t).1 ∧ (alTo n l ((linksOf n way).take k) t).1 ≤ 20000 := by
 have h1 := alTo_bd hA.hn hA.hf hA.hw hA.ht k (by rw [linksOf_len]; exact hk)
 have h2 := hA.hw.len
 have h3 := hA.ht
 omega
theorem al_bd2 {n : NetP} {l : List FogD} {way : List Int} {t : Int} (hA : AlongAsk n l way t) {k : Nat} {u : Int} {ws : List Int} (hs : (u, ws) = alTo n l ((linksOf n way).take k) t) (hk : k ≤ way.length - 1) : (0 ≤ u ∧ u ≤ 20000) ∧ ws.length ≤ way.length ∧ way.length ≤ 16 := by
 have h1 := al_bd hA hk
 have h2 := alTo_len n l ((linksOf n way).take k) t
 rw [← hs] at h1 h2
 have h4 := hA.hw.len
 simp only [List.length_take, linksOf_len] at h2
 exact ⟨h1, by omega, h4.2⟩
theorem al_wait {n : NetP} {l : List FogD} {way : List Int} {t : Int} (hA : AlongAsk n l way t) {k : Nat} {x y w : Int} {q : LinkD} (hw : (alongOf n l way t).2.1[k]? = some w) (hx : way[k]? = some x) (hy : way[k + 1]? = some y) (hq : n.links[(lkI n x y).toNat]? = some q) :
  (alTo n l ((linksOf n way).take (k + 1)) t).1 = (alTo n l ((linksOf n way).take k) t).1 + (w + q.delay) := by
 have hz := linksOf_at (n := n) hx hy
 have hzb := hA.hw.links hA.hn hz
 rw [along_yes hA] at hw
 rw [← lk_of hzb.1 hzb.2 hq]
 exact alTo_wait hz hw
noncomputable def lnkOf (n : NetP) (way : List Int) : List Int × Bool := if WayOk n way then (linksOf n way, true) else ([], false)
theorem lnk_yes {n : NetP} {way : List Int} (h : WayOk n way) : lnkOf n way = (linksOf n way, true) := by rw [lnkOf, if_pos h]
theorem lnk_no {n : NetP} {way : List Int} (h : ¬ WayOk n way) : lnkOf n way = ([], false) := by rw [lnkOf, if_neg h]
theorem lnk_ask {n : NetP} {way : List Int} (h : (lnkOf n way).2 = true) : WayOk n way := by
  unfold lnkOf at h
  split at h
  · assumption
  · cases h
theorem rl_step {n : NetP} {way : List Int} {k : Nat} {x y : Int} (h : WayTo n way (k + 1)) (hx : way[k]? = some x) (hy : way[k + 1]? = some y) (h1 : ¬ lkI n x y < 0) (h2 : ¬ y ∈ way.take (k + 1)) : WayTo n way (k + 1 + 1) :=
 way_snoc h hy h2 (fun _ z hz => by
  rw [Nat.add_sub_cancel, hx] at hz
  obtain rfl := Option.some.inj hz
  omega)
theorem rl_bad {n : NetP} {way : List Int} {k : Nat} {x y : Int} (hx : way[k]? = some x) (hy : way[k + 1]? = some y) (h1 : lkI n x y < 0 ∨ y ∈ way.take (k + 1)) : lnkOf n way = ([], false) := lnk_no fun hw => by
  have := hw.step (k + 1) y hy
  rcases h1 with h1 | h1
  · have h3 := this.2 (by omega) x (by rw [Nat.add_sub_cancel]; exact hx)
    omega
  · exact this.1 h1
noncomputable def waitsOf (n : NetP) (l : List FogD) (way : List Int) (t : Int) : List Int × Bool := ((alongOf n l way t).2.1, (alongOf n l way t).2.2)
noncomputable def arrivOf (n : NetP) (l : List FogD) (way : List Int) (t : Int) : Int × Bool := ((alongOf n l way t).1, (alongOf n l way t).2.2)
theorem waits_end {n : NetP} {l : List FogD} {way : List Int} {t : Int} (hA : AlongAsk n l way t) {k : Nat} {u : Int} {ws : List Int} (hs : (u, ws) = alTo n l ((linksOf n way).take k) t) (hk : way.length - 1 ≤ k) : waitsOf n l way t = (ws, true) := by rw [waitsOf, al_end hA hs hk]
theorem waits_no {n : NetP} {l : List FogD} {way : List Int} {t : Int} (h : ¬ AlongAsk n l way t) : waitsOf n l way t = ([], false) := by rw [waitsOf, along_no h]
theorem arriv_no {n : NetP} {l : List FogD} {way : List Int} {t : Int} (h : ¬ (waitsOf n l way t).2 = true) : arrivOf n l way t = (0, false) := by
 rw [arrivOf, along_no (fun hA => h (by rw [waitsOf, along_yes hA]))]
theorem arriv_end {n : NetP} {l : List FogD} {way : List Int} {t : Int} (hA : AlongAsk n l way t) {k : Nat} {u : Int} (hu : u = (alTo n l ((linksOf n way).take k) t).1) (hk : way.length - 1 ≤ k) : arrivOf n l way t = (u, true) := by
 rw [arrivOf, al_end hA (u := u) (ws := (alTo n l ((linksOf n way).take k) t).2) (by rw [hu]) hk]
theorem mem_take {l : List Int} {k : Nat} {a : Int} (h : ∀ y ∈ l.take k, y ≠ a) (hk : l.length ≤ k) : ¬ a ∈ l := fun hm => h a (by rw [List.take_of_length_le hk]; exact hm) rfl
theorem has_of {l : List Int} {a : Int} (h : firstF (fun x : Int => decide (a = x)) l 0 ≥ 0) : a ∈ l := by
 have := (firstF_nonneg (fun x : Int => decide (a = x)) l 0).1 h
 obtain ⟨x, hx, he⟩ := List.any_eq_true.1 this
 simp at he; subst he; exact hx

theorem spec_l1Has_ok (v_l : Value) (l : List Int) (a : Int) (h : Heap) (s_l : Sl h v_l l) : Cn f_spec_l1Has [v_l, .int .i64 a] h fun v h' => v = .bool (decide (a ∈ l)) ∧ Ext h h' := by
 have l63_l := s_l.len63
 refine calls_of r_spec_l1Has ?_
 refine v_seq <| v_ops <| s_pq (.bool false) <| s_nil <| p_seqN <| v_seq <| v_seq <| v_ops <| s_pq v_l <| s_pure (.int .i64 (l.length : Int)) (fun _ q => s_l.lenVC q) <| s_pq (.int .i64 0) <| s_nil <| p_seqN <| v_block <| v_loop1 (α := Nat) (fun k => [(1, .int .i64 a), (7, v_l), (8, .int .i64 (l.length : Int)), (9, .int .i64 (k : Int))]) (fun k hh => Ext h hh ∧ k ≤ l.length ∧ ∀ y ∈ l.take k, y ≠ a) (fun k => l.length - k) 0 ⟨rfl, rfl, rfl, rfl⟩ ⟨(Ext.refl h), (by simp)⟩ ?_
 rintro k R2 h1 ⟨Eh, ⟨hk, hall⟩⟩
 have zEh := Eh.size
 have f4 := s_l.ext Eh
 refine v_seq <| v_ops <| s_pq (.bool (decide ((k : Int) < (l.length : Int)))) <| s_nil <| p_seqN <| v_seq ?_
 refine v_cond rfl (fun c5 => ?_) (fun c5 => ?_)
 ·
  refine v_skip <| p_seqN <| v_seq <| v_block <| v_seq <| v_ops ?_
  have hk6 : k < l.length := (by first | omega | (simp; omega))
  obtain ⟨x7, hx7⟩ : ∃ x, l[k]? = some x := ⟨_, List.getElem?_eq_getElem hk6⟩
  refine s_pure (.pointer (some ⟨sblk v_l, soff v_l + k * 1, none⟩)) (fun _ q => f4.idx (k := k) rfl hk6 q) <| s_load (.int .i64 x7) (fun _ q => f4.load1 hx7 rfl q) <| s_pq (.int .i64 x7) <| s_nil <| p_seqN <| v_seq <| v_ops <| s_pq (.int .i64 x7) <| s_pq (.int .i64 a) <| s_pq (.bool (x7 == a)) <| s_nil <| p_seqN ?_
  refine v_cond rfl (fun c8 => ?_) (fun c8 => ?_)
  ·
   refine v_seq <| v_ops <| s_pq (.bool true) <| s_nil <| p_seqN <| v_ret <| p_blkR <| p_seqR <| p_lpR <| p_blkR <| p_seqR <| p_ret [.bool true] (.bool true) (fun _ q => q) rfl ?_
   have ho : (decide (a ∈ l)) = true := by first | exact decide_eq_true (by (have hm := List.mem_of_getElem? (by assumption : l[k]? = some x7)); (have e : x7 = a := (by assumption)); rw [← e]; exact hm) | exact decide_eq_false (mem_take hall (by omega))
   exact ⟨by first | (rw [ho]; done) | rfl, Eh⟩
  refine v_skip <| p_blkN <| p_seqN <| v_ops <| s_pure (.int .i64 ((k : Int) + 1)) (fun _ q => ArithVC.mk (by omega) q) <| s_pq (.int .i64 ((k : Int) + 1)) <| s_nil ?_
  exact p_lpN ⟨k + 1, ⟨rfl, rfl, rfl, rfl⟩, ⟨Eh, (by exact ⟨by omega, all_snoc (P := fun y => y ≠ a) hall (by assumption) (by assumption)⟩)⟩, by omega⟩
 refine v_exit <| p_seqX <| p_lpX <| p_blkX <| p_seqN <| v_seq <| v_ops <| s_pq (.bool false) <| s_nil <| p_seqN <| v_ret <| p_ret [.bool false] (.bool false) (fun _ q => q) rfl ?_
 have ho : (decide (a ∈ l)) = false := by first | exact decide_eq_true (by (have hm := List.mem_of_getElem? (by assumption : l[k]? = some x__)); (have e : x__ = a := (by assumption)); rw [← e]; exact hm) | exact decide_eq_false (mem_take hall (by omega))
 exact ⟨by first | (rw [ho]; done) | rfl, Eh⟩

theorem slices_Index_Lint_int_ok (v_l : Value) (l : List Int) (a : Int) (h : Heap) (s_l : Sl h v_l l) : Cn f_slices_Index_Lint_int [v_l, .int .i64 a] h fun v h' => v = .int .i64 (firstF (fun x : Int => decide (a = x)) l 0) ∧ Ext h h' := by
 have l63_l := s_l.len63
 refine calls_of r_slices_Index_Lint_int ?_
 refine v_seq <| v_ops <| s_pq (.int .i64 0) <| s_nil <| p_seqN <| v_seq <| v_seq <| v_ops <| s_pq v_l <| s_pure (.int .i64 (l.length : Int)) (fun _ q => s_l.lenVC q) <| s_pq (.int .i64 0) <| s_nil <| p_seqN <| v_block <| v_loop1 (α := Nat) (fun k => [(0, v_l), (1, .int .i64 a), (7, .int .i64 (l.length : Int)), (8, .int .i64 (k : Int))]) (fun k hh => Ext h hh ∧ k ≤ l.length ∧ firstF (fun x : Int => decide (a = x)) l 0 = firstF (fun x : Int => decide (a = x)) (l.drop k) k) (fun k => l.length - k) 0 ⟨rfl, rfl, rfl, rfl⟩ ⟨(Ext.refl h), (by simp)⟩ ?_
 rintro k R2 h1 ⟨Eh, ⟨hk, hF⟩⟩
 have zEh := Eh.size
 have f4 := s_l.ext Eh
 refine v_seq <| v_ops <| s_pq (.bool (decide ((k : Int) < (l.length : Int)))) <| s_nil <| p_seqN <| v_seq ?_
 refine v_cond rfl (fun c5 => ?_) (fun c5 => ?_)
 ·
  refine v_skip <| p_seqN <| v_seq <| v_block <| v_seq <| v_ops <| s_pq (.int .i64 (k : Int)) <| s_pq (.int .i64 (k : Int)) <| s_nil <| p_seqN <| v_seq <| v_ops <| s_pq (.int .i64 a) <| s_pq v_l <| s_pq (.int .i64 (k : Int)) ?_
  have hk6 : k < l.length := (by first | omega | (simp; omega))
  obtain ⟨x7, hx7⟩ : ∃ x, l[k]? = some x := ⟨_, List.getElem?_eq_getElem hk6⟩
  refine s_pure (.pointer (some ⟨sblk v_l, soff v_l + k * 1, none⟩)) (fun _ q => f4.idx (k := k) rfl hk6 q) <| s_load (.int .i64 x7) (fun _ q => f4.load1 hx7 rfl q) <| s_pq (.bool (a == x7)) <| s_nil <| p_seqN ?_
  refine v_cond rfl (fun c8 => ?_) (fun c8 => ?_)
  ·
   refine v_seq <| v_ops <| s_pq (.int .i64 (k : Int)) <| s_pq (.int .i64 (k : Int)) <| s_nil <| p_seqN <| v_ret <| p_blkR <| p_seqR <| p_lpR <| p_blkR <| p_seqR <| p_ret [.int .i64 (k : Int)] (.int .i64 (k : Int)) (fun _ q => q) rfl ?_
   have ho : (firstF (fun x : Int => decide (a = x)) l 0) = (k : Int) := by first | (rw [hF, drop_at (by assumption), firstF, decide_eq_true (by assumption)]; rfl) | (rw [hF, List.drop_of_length_le (by omega), firstF])
   exact ⟨by first | (rw [ho]; done) | rfl, Eh⟩
  refine v_skip <| p_blkN <| p_seqN <| v_ops <| s_pure (.int .i64 ((k : Int) + 1)) (fun _ q => ArithVC.mk (by omega) q) <| s_pq (.int .i64 ((k : Int) + 1)) <| s_nil ?_
  exact p_lpN ⟨k + 1, ⟨rfl, rfl, rfl, rfl⟩, ⟨Eh, (by exact ⟨by omega, by rw [hF, drop_at (by assumption), firstF, decide_eq_false (by assumption)]; rfl⟩)⟩, by omega⟩
 refine v_exit <| p_seqX <| p_lpX <| p_blkX <| p_seqN <| v_seq <| v_ops <| s_pq (.int .i64 (-1)) <| s_nil <| p_seqN <| v_ret <| p_ret [.int .i64 (-1)] (.int .i64 (-1)) (fun _ q => q) rfl ?_
 have ho : (firstF (fun x : Int => decide (a = x)) l 0) = (-1) := by first | (rw [hF, drop_at (by assumption), firstF, decide_eq_true (by assumption)]; rfl) | (rw [hF, List.drop_of_length_le (by omega), firstF])
 exact ⟨by first | (rw [ho]; done) | rfl, Eh⟩

theorem slices_Contains_Lint_int_ok (v_l : Value) (l : List Int) (a : Int) (h : Heap) (s_l : Sl h v_l l) : Cn f_slices_Contains_Lint_int [v_l, .int .i64 a] h fun v h' => v = .bool (decide (a ∈ l)) ∧ Ext h h' := by
 have l63_l := s_l.len63
 refine calls_of r_slices_Contains_Lint_int ?_
 refine v_seq <| v_ops <| s_pq (.bool false) <| s_nil <| p_seqN <| v_seq <| v_ops <| s_pq v_l <| s_pq (.int .i64 a) <| s_call [v_l, .int .i64 a] rfl (slices_Index_Lint_int_ok v_l l a _ s_l) ?_
 rintro _ h1 ⟨rfl, eh1⟩
 have E2 := (Ext.refl h).trans eh1
 have z3 := eh1.size
 refine s_pq (.bool (decide ((firstF (fun x : Int => decide (a = x)) l 0) ≥ 0))) <| s_pq (.bool (decide ((firstF (fun x : Int => decide (a = x)) l 0) ≥ 0))) <| s_nil <| p_seqN <| v_ret <| p_ret [.bool (decide ((firstF (fun x : Int => decide (a = x)) l 0) ≥ 0))] (.bool (decide ((firstF (fun x : Int => decide (a = x)) l 0) ≥ 0))) (fun _ q => q) rfl ?_
 have ho : (decide (a ∈ l)) = (decide ((firstF (fun x : Int => decide (a = x)) l 0) ≥ 0)) := by rw [Bool.eq_iff_iff, decide_eq_true_eq, decide_eq_true_eq]; exact ⟨fun hm => (firstF_nonneg _ l 0).2 (List.any_eq_true.2 ⟨a, hm, by simp⟩), has_of⟩
 exact ⟨by first | (rw [ho]; done) | rfl, E2⟩

set_option maxRecDepth 10000 in
set_option maxHeartbeats 4000000 in
theorem impl_isWay_ok (n : NetP) (v_n_towers : Value) (v_n_links : Value) (v_way : Value) (way : List Int) (h : Heap) (s_n_towers : Sl h v_n_towers n.towers) (s_n_links : Sl h v_n_links n.links) (s_way : Sl h v_way way) (hn : NetOk n) : Cn f_impl_isWay [.agg #[v_n_towers, v_n_links], v_way] h fun v h' => v = .bool (decide (WayOk n way)) ∧ Ext h h' := by
 have l63_n_towers := s_n_towers.len63
 have l63_n_links := s_n_links.len63
 have l63_way := s_way.len63
 refine calls_of r_impl_isWay ?_
 refine v_seq <| v_ops ?_
 refine s_box [v_n_towers, v_n_links] rfl (fun h2 b1 hbb1 hzb1 eh2 bxb1 => ?_)
 have E3 := (Ext.refl h).trans eh2
 have z4 := eh2.size
 have lbb1 := bxb1.lt
 refine s_pq (.bool false) <| s_nil <| p_seqN <| v_seq <| v_seq <| v_ops <| s_pq v_way <| s_pure (.int .i64 (way.length : Int)) (fun _ q => s_way.lenVC q) <| s_callS [.int .i64 (way.length : Int), .int .i64 1, .int .i64 16] (.bool (decide (1 ≤ (way.length : Int) ∧ (way.length : Int) ≤ 16))) rfl (within_ok (way.length : Int) 1 16 _ ) <| s_pq (.bool (!(decide (1 ≤ (way.length : Int) ∧ (way.length : Int) ≤ 16)))) <| s_pq (.bool (!(decide (1 ≤ (way.length : Int) ∧ (way.length : Int) ≤ 16)))) ?_
 refine s_splitT rfl (fun c5 => ?_) (fun c5 => ?_)
 ·
  refine s_pass rfl <| s_pass rfl <| s_pass rfl <| s_pass rfl <| s_pass rfl <| s_pass rfl <| s_pass rfl <| s_pq (.bool true) <| s_nil <| p_seqN <| v_condY rfl rfl <| v_seq <| v_ops <| s_pq (.bool false) <| s_nil <| p_seqN <| v_ret <| p_seqR <| p_ret [.bool false] (.bool false) (fun _ q => q) rfl ?_
  have ho : (decide (WayOk n way)) = false := by first | exact way_bad1 (by omega) | exact way_bad2 (by assumption) | exact way_bad (by assumption : way[k]? = some xo__) (fun hp => absurd (by assumption) hp.1) | exact way_bad (by assumption : way[k]? = some xo__) (fun hp => by (have := hp.2 (by omega) _ (by assumption : way[k - 1]? = some x__)); omega) | exact way_end (by omega) (by assumption) hw (by assumption)
  exact ⟨by first | (rw [ho]; done) | rfl, E3⟩
 have c5 := Classical.not_not.1 c5
 refine s_run rfl <| s_pq v_way <| s_run rfl <| s_pq (.pointer (some ⟨b1, 0, none⟩)) <| s_run rfl <| s_load v_n_towers (fun _ q => bxb1.load rfl q) <| s_run rfl <| s_pure (.int .i64 (n.towers.length : Int)) (fun _ q => s_n_towers.lenVC q) <| s_run rfl <| s_pure (.int .i64 ((n.towers.length : Int) - 1)) (fun _ q => ArithVC.mk (by omega) q) <| s_run rfl ?_
 have f6 := (s_way.ext eh2)
 refine s_callS [v_way, .int .i64 0, .int .i64 ((n.towers.length : Int) - 1)] (.bool (decide (AllIn 0 ((n.towers.length : Int) - 1) way))) rfl (allWithin_ok v_way way 0 ((n.towers.length : Int) - 1) _ f6) ?_
 refine s_run rfl <| s_pq (.bool (!(decide (AllIn 0 ((n.towers.length : Int) - 1) way)))) <| s_pq (.bool (!(decide (AllIn 0 ((n.towers.length : Int) - 1) way)))) <| s_nil <| p_seqN ?_
 refine v_cond rfl (fun c7 => ?_) (fun c7 => ?_)
 ·
  refine v_seq <| v_ops <| s_pq (.bool false) <| s_nil <| p_seqN <| v_ret <| p_seqR <| p_ret [.bool false] (.bool false) (fun _ q => q) rfl ?_
  have ho : (decide (WayOk n way)) = false := by first | exact way_bad1 (by omega) | exact way_bad2 (by assumption) | exact way_bad (by assumption : way[k]? = some xo__) (fun hp => absurd (by assumption) hp.1) | exact way_bad (by assumption : way[k]? = some xo__) (fun hp => by (have := hp.2 (by omega) _ (by assumption : way[k - 1]? = some x__)); omega) | exact way_end (by omega) (by assumption) hw (by assumption)
  exact ⟨by first | (rw [ho]; done) | rfl, E3⟩
 have c7 := Classical.not_not.1 c7
 refine v_skip <| p_seqN <| v_seq <| v_seq <| v_ops <| s_pq v_way <| s_pure (.int .i64 (way.length : Int)) (fun _ q => f6.lenVC q) <| s_pq (.int .i64 0) <| s_nil <| p_seqN <| v_block <| v_loop1 (α := Nat) (fun k => [(1, v_way), (2, .pointer (some ⟨b1, 0, none⟩)), (20, v_way), (21, .int .i64 (way.length : Int)), (22, .int .i64 (k : Int))]) (fun k hh => Ext h hh ∧ Bx hh b1 [v_n_towers, v_n_links] 26 ∧ k ≤ way.length ∧ WayTo n way k) (fun k => way.length - k) 0 ⟨rfl, rfl, rfl, rfl, rfl⟩ ⟨E3, bxb1, (by exact ⟨by omega, fun i x hi => by omega⟩)⟩ ?_
 rintro k R9 h8 ⟨Eh, bxb1, ⟨hk, hw⟩⟩
 have zEh := Eh.size
 have f11 := s_n_towers.ext Eh
 have f12 := s_n_links.ext Eh
 have f13 := s_way.ext Eh
 have lbb1 := bxb1.lt
 refine v_seq <| v_ops <| s_pq (.bool (decide ((k : Int) < (way.length : Int)))) <| s_nil <| p_seqN <| v_seq ?_
 refine v_cond rfl (fun c14 => ?_) (fun c14 => ?_)
 ·
  refine v_skip <| p_seqN <| v_seq <| v_block <| v_seq <| v_ops <| s_pq (.int .i64 (k : Int)) ?_
  have hk15 : k < way.length := (by first | omega | (simp; omega))
  obtain ⟨x16, hx16⟩ : ∃ x, way[k]? = some x := ⟨_, List.getElem?_eq_getElem hk15⟩
  refine s_pure (.pointer (some ⟨sblk v_way, soff v_way + k * 1, none⟩)) (fun _ q => f13.idx (k := k) rfl hk15 q) <| s_load (.int .i64 x16) (fun _ q => f13.load1 hx16 rfl q) <| s_pq (.int .i64 (k : Int)) <| s_pq (.int .i64 x16) <| s_nil <| p_seqN <| v_seq ?_
  refine v_draw (DrawVC.hold ([b1]) ?_)
  refine d_pq v_way <| d_pq (.int .i64 (k : Int)) ?_
  obtain ⟨r17, hqr17, s_r17, bk_r17⟩ := f13.slc (l := 0) (m := k) (by first | omega | (simp; omega)) (by first | omega | (simp; omega))
  simp only [List.drop_zero] at s_r17
  refine d_pureT r17 (fun K q => hqr17 _ rfl none (some (.int .i64 (k : Int))) rfl ⟨_, _, rfl, rfl⟩ K q) <| d_pq (.int .i64 x16) <| d_eff <| s_call [r17, .int .i64 x16] rfl (slices_Contains_Lint_int_ok r17 (way.take k) x16 _ s_r17) ?_
  rintro _ h18 ⟨rfl, eh18⟩
  have E19 := Eh.trans eh18
  have z20 := eh18.size
  have G21 := eh18
  refine s_nil ⟨fun _ x hx => G21.blk x (by simp at hx; omega), ?_⟩
  refine d_pq (.bool (decide (x16 ∈ (way.take k)))) ?_
  refine d_splitT rfl (fun c22 => ?_) (fun c22 => ?_)
  ·
   refine d_passT rfl <| d_passT rfl <| d_passT rfl <| d_splitU rfl <| d_passTU rfl <| d_passTU rfl <| d_passTU rfl <| d_passTU rfl <| d_passTU rfl <| d_passTU rfl <| d_passOU rfl <| d_passOU rfl <| d_passTU rfl <| d_passT rfl <| d_pq (.bool true) <| d_done <| p_seqN <| v_condY rfl rfl <| v_seq <| v_ops <| s_pq (.bool false) <| s_nil <| p_seqN <| v_ret <| p_blkR <| p_seqR <| p_lpR <| p_blkR <| p_seqR <| p_ret [.bool false] (.bool false) (fun _ q => q) rfl ?_
   have ho : (decide (WayOk n way)) = false := by first | exact way_bad1 (by omega) | exact way_bad2 (by assumption) | exact way_bad (by assumption : way[k]? = some x16) (fun hp => absurd (by assumption) hp.1) | exact way_bad (by assumption : way[k]? = some x16) (fun hp => by (have := hp.2 (by omega) _ (by assumption : way[k - 1]? = some x16)); omega) | exact way_end (by omega) (by assumption) hw (by assumption)
   exact ⟨by first | (rw [ho]; done) | rfl, E19⟩
  refine d_runT rfl <| d_pq (.int .i64 (k : Int)) <| d_runT rfl <| d_pq (.bool (decide ((k : Int) > 0))) <| d_runT rfl <| d_pq (.bool (decide ((k : Int) > 0))) ?_
  refine d_splitT rfl (fun c23 => ?_) (fun c23 => ?_)
  ·
   refine d_runT rfl <| d_pq v_way <| d_runT rfl <| d_pq (.int .i64 (k : Int)) <| d_runT rfl <| d_pureT (.int .i64 ((k : Int) - 1)) (fun _ q => ArithVC.mk (by omega) q) <| d_runT rfl ?_
   have f24 := (f13.ext eh18)
   have hk25 : (k - 1) < way.length := (by first | omega | (simp; omega))
   obtain ⟨x26, hx26⟩ : ∃ x, way[(k - 1)]? = some x := ⟨_, List.getElem?_eq_getElem hk25⟩
   refine d_pureT (.pointer (some ⟨sblk v_way, soff v_way + (k - 1) * 1, none⟩)) (fun _ q => f24.idx (k := (k - 1)) (by omega) hk25 q) <| d_runT rfl <| d_pq (.int .i64 x16) <| d_runT rfl <| d_loadT (.agg #[v_n_towers, v_n_links]) (fun _ q => bxb1.takeA (by simp) rfl q) <| d_runO rfl <| d_loadO (.int .i64 x26) (fun _ q => f24.load1 hx26 rfl q) <| d_runO rfl <| d_eff ?_
   have f27 := (f11.ext eh18)
   have f28 := (f12.ext eh18)
   refine s_call [.agg #[v_n_towers, v_n_links], .int .i64 x26, .int .i64 x16] rfl (impl_linkIndex_ok n v_n_towers v_n_links x26 x16 _ f27 f28 hn) ?_
   rintro _ h29 ⟨rfl, eh29⟩
   have E30 := E19.trans eh29
   have z31 := eh29.size
   refine s_nil ⟨fun hl => (by cases hl), ?_⟩
   refine d_runT rfl <| d_pq (.bool (decide ((lkI n x26 x16) < 0))) <| d_runT rfl <| d_pq (.bool (decide ((lkI n x26 x16) < 0))) <| d_pq (.bool (decide ((lkI n x26 x16) < 0))) <| d_done <| p_seqN ?_
   refine v_cond rfl (fun c33 => ?_) (fun c33 => ?_)
   ·
    refine v_seq <| v_ops <| s_pq (.bool false) <| s_nil <| p_seqN <| v_ret <| p_blkR <| p_seqR <| p_lpR <| p_blkR <| p_seqR <| p_ret [.bool false] (.bool false) (fun _ q => q) rfl ?_
    have ho : (decide (WayOk n way)) = false := by first | exact way_bad1 (by omega) | exact way_bad2 (by assumption) | exact way_bad (by assumption : way[k]? = some x16) (fun hp => absurd (by assumption) hp.1) | exact way_bad (by assumption : way[k]? = some x16) (fun hp => by (have := hp.2 (by omega) _ (by assumption : way[k - 1]? = some x26)); omega) | exact way_end (by omega) (by assumption) hw (by assumption)
    exact ⟨by first | (rw [ho]; done) | rfl, E30⟩
   refine v_skip <| p_blkN <| p_seqN <| v_ops <| s_pure (.int .i64 ((k : Int) + 1)) (fun _ q => ArithVC.mk (by omega) q) <| s_pq (.int .i64 ((k : Int) + 1)) <| s_nil ?_
   have f34 := ((bxb1.ext eh18).ext eh29)
   exact p_lpN ⟨k + 1, ⟨rfl, rfl, rfl, rfl, rfl⟩, ⟨E30, f34, (by exact ⟨by omega, way_snoc hw (by assumption) (by assumption) (fun h0 y hy => by first | omega | ((obtain rfl := Option.some.inj (hy.symm.trans (by assumption : way[k - 1]? = some x26))); omega))⟩)⟩, by omega⟩
  refine d_passT rfl <| d_passT rfl <| d_passT rfl <| d_passT rfl <| d_passT rfl <| d_passT rfl <| d_passO rfl <| d_passO rfl <| d_passT rfl <| d_runT rfl <| d_pq (.bool false) <| d_pq (.bool false) <| d_done <| p_seqN <| v_condN rfl (by simp) <| v_skip <| p_blkN <| p_seqN <| v_ops <| s_pure (.int .i64 ((k : Int) + 1)) (fun _ q => ArithVC.mk (by omega) q) <| s_pq (.int .i64 ((k : Int) + 1)) <| s_nil ?_
  have f35 := (bxb1.ext eh18)
  exact p_lpN ⟨k + 1, ⟨rfl, rfl, rfl, rfl, rfl⟩, ⟨E19, f35, (by exact ⟨by omega, way_snoc hw (by assumption) (by assumption) (fun h0 y hy => by first | omega | ((obtain rfl := Option.some.inj (hy.symm.trans (by assumption : way[k - 1]? = some x16))); omega))⟩)⟩, by omega⟩
 refine v_exit <| p_seqX <| p_lpX <| p_blkX <| p_seqN <| v_seq <| v_ops <| s_pq (.bool true) <| s_nil <| p_seqN <| v_ret <| p_ret [.bool true] (.bool true) (fun _ q => q) rfl ?_
 have ho : (decide (WayOk n way)) = true := by first | exact way_bad1 (by omega) | exact way_bad2 (by assumption) | exact way_bad (by assumption : way[k]? = some xo__) (fun hp => absurd (by assumption) hp.1) | exact way_bad (by assumption : way[k]? = some xo__) (fun hp => by (have := hp.2 (by omega) _ (by assumption : way[k - 1]? = some x__)); omega) | exact way_end (by omega) (by assumption) hw (by assumption)
 exact ⟨by first | (rw [ho]; done) | rfl, Eh⟩

set_option maxRecDepth 10000 in
set_option maxHeartbeats 4000000 in
theorem impl_WaitsAlong_ok (n : NetP) (v_n_towers : Value) (v_n_links : Value) (v_l : Value) (l : List FogD) (v_way : Value) (way : List Int) (t : Int) (h : Heap) (s_n_towers : Sl h v_n_towers n.towers) (s_n_links : Sl h v_n_links n.links) (s_l : Sl h v_l l) (s_way : Sl h v_way way) : Cn f_impl_WaitsAlong [.agg #[v_n_towers, v_n_links], v_l, v_way, .int .i64 t] h fun v h' => ∃ r0 : Value, v = .tuple #[r0, .bool ((waitsOf n l way t).2)] ∧ SlO h' r0 ((waitsOf n l way t).1) ∧ Fr h.size r0 ∧ Ext h h' := by
 have l63_n_towers := s_n_towers.len63
 have l63_n_links := s_n_links.len63
 have l63_l := s_l.len63
 have l63_way := s_way.len63
 refine calls_of r_impl_WaitsAlong ?_
 refine v_seq <| v_ops ?_
 refine s_box [v_n_towers, v_n_links] rfl (fun h2 b1 hbb1 hzb1 eh2 bxb1 => ?_)
 have E3 := (Ext.refl h).trans eh2
 have z4 := eh2.size
 have lbb1 := bxb1.lt
 refine s_pq (.slice none 0 0) <| s_pq (.bool false) <| s_nil <| p_seqN <| v_seq <| v_seq <| v_ops <| s_load (.agg #[v_n_towers, v_n_links]) (fun _ q => bxb1.loadA rfl q) ?_
 have f5 := (s_n_towers.ext eh2)
 have f6 := (s_n_links.ext eh2)
 refine s_call [.agg #[v_n_towers, v_n_links]] rfl (impl_IsNet_ok n v_n_towers v_n_links _ f5 f6) ?_
 rintro _ h7 ⟨rfl, eh7⟩
 have E8 := E3.trans eh7
 have z9 := eh7.size
 refine s_pq (.bool (!decide (NetOk n))) <| s_pq (.bool (!decide (NetOk n))) ?_
 refine s_splitT rfl (fun c10 => ?_) (fun c10 => ?_)
 ·
  refine s_pass rfl <| s_pass rfl <| s_pass rfl <| s_pass rfl <| s_pq (.bool true) <| s_pq (.bool true) <| s_splitY rfl rfl <| s_pass rfl <| s_pass rfl <| s_pass rfl <| s_pq (.bool true) <| s_pq (.bool true) <| s_splitY rfl rfl <| s_pass rfl <| s_pass rfl <| s_pass rfl <| s_pass rfl <| s_pq (.bool true) <| s_nil <| p_seqN <| v_condY rfl rfl <| v_seq <| v_ops <| s_pq (.slice none 0 0) <| s_pq (.bool false) <| s_nil <| p_seqN <| v_ret <| p_seqR <| p_ret [.slice none 0 0, .bool false] (.tuple #[.slice none 0 0, .bool false]) (fun _ q => q) rfl ?_
  have ho : (waitsOf n l way t) = ([], false) := by first | exact waits_end hA hs (by omega) | exact waits_no (fun h => by first | exact (by assumption : ¬ NetOk n) h.hn | exact (by assumption : ¬ FogsOk _ _) h.hf | exact (by assumption : ¬ (0 ≤ t ∧ _)) h.ht | exact (by assumption : ¬ WayOk n way) h.hw)
  exact ⟨(.slice none 0 0), by first | (rw [ho]; done) | rfl, sl_eq (SlX.nil (α := Int) true _) (congrArg (fun o => o.1) ho).symm, Fr.nil _, E8⟩
 have c10 := Classical.not_not.1 c10
 refine s_run rfl ?_
 have f11 := (bxb1.ext eh7)
 refine s_load (.agg #[v_n_towers, v_n_links]) (fun _ q => f11.loadA rfl q) <| s_run rfl <| s_pq v_l <| s_run rfl ?_
 have f12 := (f5.ext eh7)
 have f13 := (f6.ext eh7)
 have f14 := ((s_l.ext eh2).ext eh7)
 refine s_call [.agg #[v_n_towers, v_n_links], v_l] rfl (impl_areFogs_ok n v_n_towers v_n_links v_l l _ f12 f13 f14) ?_
 rintro _ h15 ⟨rfl, eh15⟩
 have E16 := E8.trans eh15
 have z17 := eh15.size
 refine s_run rfl <| s_pq (.bool (!(decide (FogsOk n.links.length l)))) <| s_pq (.bool (!(decide (FogsOk n.links.length l)))) <| s_pq (.bool (!(decide (FogsOk n.links.length l)))) ?_
 refine s_splitT rfl (fun c18 => ?_) (fun c18 => ?_)
 ·
  refine s_pass rfl <| s_pass rfl <| s_pass rfl <| s_pq (.bool true) <| s_pq (.bool true) <| s_splitY rfl rfl <| s_pass rfl <| s_pass rfl <| s_pass rfl <| s_pass rfl <| s_pq (.bool true) <| s_nil <| p_seqN <| v_condY rfl rfl <| v_seq <| v_ops <| s_pq (.slice none 0 0) <| s_pq (.bool false) <| s_nil <| p_seqN <| v_ret <| p_seqR <| p_ret [.slice none 0 0, .bool false] (.tuple #[.slice none 0 0, .bool false]) (fun _ q => q) rfl ?_
  have ho : (waitsOf n l way t) = ([], false) := by first | exact waits_end hA hs (by omega) | exact waits_no (fun h => by first | exact (by assumption : ¬ NetOk n) h.hn | exact (by assumption : ¬ FogsOk _ _) h.hf | exact (by assumption : ¬ (0 ≤ t ∧ _)) h.ht | exact (by assumption : ¬ WayOk n way) h.hw)
  exact ⟨(.slice none 0 0), by first | (rw [ho]; done) | rfl, sl_eq (SlX.nil (α := Int) true _) (congrArg (fun o => o.1) ho).symm, Fr.nil _, E16⟩
 have c18 := Classical.not_not.1 c18
 refine s_run rfl <| s_pq (.int .i64 t) <| s_run rfl <| s_callS [.int .i64 t, .int .i64 0, .int .i64 10000] (.bool (decide (0 ≤ t ∧ t ≤ 10000))) rfl (within_ok t 0 10000 _ ) <| s_run rfl <| s_pq (.bool (!(decide (0 ≤ t ∧ t ≤ 10000)))) <| s_pq (.bool (!(decide (0 ≤ t ∧ t ≤ 10000)))) <| s_pq (.bool (!(decide (0 ≤ t ∧ t ≤ 10000)))) ?_
 refine s_splitT rfl (fun c19 => ?_) (fun c19 => ?_)
 ·
  refine s_pass rfl <| s_pass rfl <| s_pass rfl <| s_pass rfl <| s_pq (.bool true) <| s_nil <| p_seqN <| v_condY rfl rfl <| v_seq <| v_ops <| s_pq (.slice none 0 0) <| s_pq (.bool false) <| s_nil <| p_seqN <| v_ret <| p_seqR <| p_ret [.slice none 0 0, .bool false] (.tuple #[.slice none 0 0, .bool false]) (fun _ q => q) rfl ?_
  have ho : (waitsOf n l way t) = ([], false) := by first | exact waits_end hA hs (by omega) | exact waits_no (fun h => by first | exact (by assumption : ¬ NetOk n) h.hn | exact (by assumption : ¬ FogsOk _ _) h.hf | exact (by assumption : ¬ (0 ≤ t ∧ _)) h.ht | exact (by assumption : ¬ WayOk n way) h.hw)
  exact ⟨(.slice none 0 0), by first | (rw [ho]; done) | rfl, sl_eq (SlX.nil (α := Int) true _) (congrArg (fun o => o.1) ho).symm, Fr.nil _, E16⟩
 have c19 := Classical.not_not.1 c19
 refine s_run rfl ?_
 have f20 := (f11.ext eh15)
 refine s_load (.agg #[v_n_towers, v_n_links]) (fun _ q => f20.loadA rfl q) <| s_run rfl <| s_pq v_way <| s_run rfl ?_
 have f21 := (f12.ext eh15)
 have f22 := (f13.ext eh15)
 have f23 := (((s_way.ext eh2).ext eh7).ext eh15)
 refine s_call [.agg #[v_n_towers, v_n_links], v_way] rfl (impl_isWay_ok n v_n_towers v_n_links v_way way _ f21 f22 f23 (by assumption)) ?_
 rintro _ h24 ⟨rfl, eh24⟩
 have E25 := E16.trans eh24
 have z26 := eh24.size
 refine s_run rfl <| s_pq (.bool (!(decide (WayOk n way)))) <| s_pq (.bool (!(decide (WayOk n way)))) <| s_nil <| p_seqN ?_
 refine v_cond rfl (fun c27 => ?_) (fun c27 => ?_)
 ·
  refine v_seq <| v_ops <| s_pq (.slice none 0 0) <| s_pq (.bool false) <| s_nil <| p_seqN <| v_ret <| p_seqR <| p_ret [.slice none 0 0, .bool false] (.tuple #[.slice none 0 0, .bool false]) (fun _ q => q) rfl ?_
  have ho : (waitsOf n l way t) = ([], false) := by first | exact waits_end hA hs (by omega) | exact waits_no (fun h => by first | exact (by assumption : ¬ NetOk n) h.hn | exact (by assumption : ¬ FogsOk _ _) h.hf | exact (by assumption : ¬ (0 ≤ t ∧ _)) h.ht | exact (by assumption : ¬ WayOk n way) h.hw)
  exact ⟨(.slice none 0 0), by first | (rw [ho]; done) | rfl, sl_eq (SlX.nil (α := Int) true _) (congrArg (fun o => o.1) ho).symm, Fr.nil _, E25⟩
 have c27 := Classical.not_not.1 c27
 refine v_skip <| p_seqN <| v_seq <| v_ops <| s_pq (.slice none 0 0) <| s_nil <| p_seqN <| v_seq <| v_seq <| v_ops <| s_pq v_way <| s_pure (.int .i64 (way.length : Int)) (fun _ q => f23.lenVC q) <| s_pure (.int .i64 ((way.length : Int) - 1)) (fun _ q => ArithVC.mk (by omega) q) <| s_pq (.int .i64 0) <| s_nil <| p_seqN <| v_block ?_
 have hA : AlongAsk n l way t := ⟨by assumption, by assumption, by assumption, by assumption⟩
 have hwl := hA.hw.len
 have f29 := (f20.ext eh24)
 refine v_loop4 (α := Nat) (β := Int) (γ := List Int) (δ := Value) (fun k u ws w => [(1, v_l), (2, v_way), (3, .int .i64 u), (4, .pointer (some ⟨b1, 0, none⟩)), (10, w), (36, .int .i64 ((way.length : Int) - 1)), (37, .int .i64 (k : Int))]) (fun k u ws w hh => Ext h hh ∧ Bx hh b1 [v_n_towers, v_n_links] 26 ∧ SlO hh w ws ∧ Fr h.size w ∧ b1 ∉ blks w ∧ k ≤ (way.length - 1) ∧ (u, ws) = alTo n l ((linksOf n way).take k) t) (fun k u ws w => (way.length - 1) - k) 0 t [] (.slice none 0 0) ⟨rfl, rfl, rfl, rfl, rfl, rfl, rfl⟩ ⟨E25, f29, (sl_eq (SlX.nil (α := Int) true h24) (by simp)), (Fr.nil _), (by simp [blks, fpts]), (by simp [alTo])⟩ ?_
 rintro k u ws w R30 h28 ⟨Eh, bxb1, s_w, fr_w, np_b1_w, ⟨hk, hs⟩⟩
 have zEh := Eh.size
 have f32 := s_n_towers.ext Eh
 have f33 := s_n_links.ext Eh
 have f34 := s_l.ext Eh
 have f35 := s_way.ext Eh
 have lbb1 := bxb1.lt
 have hub := al_bd2 hA hs (by omega)
 refine v_seq <| v_ops <| s_pq (.bool (decide ((k : Int) < ((way.length : Int) - 1)))) <| s_nil <| p_seqN <| v_seq ?_
 refine v_cond rfl (fun c36 => ?_) (fun c36 => ?_)
 ·
  refine v_skip <| p_seqN <| v_seq <| v_block <| v_seq <| v_ops <| s_pq (.int .i64 (k : Int)) <| s_pq (.int .i64 (k : Int)) <| s_nil <| p_seqN <| v_seq <| v_drawF <| d_pq v_way <| d_pq (.int .i64 (k : Int)) ?_
  have hk37 : k < way.length := (by first | omega | (simp; omega))
  obtain ⟨x38, hx38⟩ : ∃ x, way[k]? = some x := ⟨_, List.getElem?_eq_getElem hk37⟩
  refine d_pureT (.pointer (some ⟨sblk v_way, soff v_way + k * 1, none⟩)) (fun _ q => f35.idx (k := k) rfl hk37 q) <| d_pq v_way <| d_pq (.int .i64 (k : Int)) <| d_pureT (.int .i64 ((k : Int) + 1)) (fun _ q => ArithVC.mk (by omega) q) ?_
  have hk39 : (k + 1) < way.length := (by first | omega | (simp; omega))
  obtain ⟨x40, hx40⟩ : ∃ x, way[(k + 1)]? = some x := ⟨_, List.getElem?_eq_getElem hk39⟩
  refine d_pureT (.pointer (some ⟨sblk v_way, soff v_way + (k + 1) * 1, none⟩)) (fun _ q => f35.idx (k := (k + 1)) rfl hk39 q) <| d_loadO (.agg #[v_n_towers, v_n_links]) (fun _ q => bxb1.loadA rfl q) <| d_loadO (.int .i64 x38) (fun _ q => f35.load1 hx38 rfl q) <| d_loadO (.int .i64 x40) (fun _ q => f35.load1 hx40 rfl q) <| d_eff <| s_call [.agg #[v_n_towers, v_n_links], .int .i64 x38, .int .i64 x40] rfl (impl_linkIndex_ok n v_n_towers v_n_links x38 x40 _ f32 f33 hA.hn) ?_
  rintro _ h41 ⟨rfl, eh41⟩
  have E42 := Eh.trans eh41
  have z43 := eh41.size
  refine s_nil ⟨fun hl => (by cases hl), ?_⟩
  refine d_pq (.int .i64 (lkI n x38 x40)) <| d_done <| p_seqN <| v_seq <| v_ops ?_
  have f45 := (bxb1.ext eh41)
  refine s_load (.agg #[v_n_towers, v_n_links]) (fun _ q => f45.loadA rfl q) <| s_pq v_l <| s_pq (.int .i64 (lkI n x38 x40)) <| s_pq (.int .i64 u) ?_
  have f46 := (f32.ext eh41)
  have f47 := (f33.ext eh41)
  have f48 := (f34.ext eh41)
  refine s_call [.agg #[v_n_towers, v_n_links], v_l, .int .i64 (lkI n x38 x40), .int .i64 u] rfl (impl_goOver_ok n v_n_towers v_n_links v_l l (lkI n x38 x40) u _ f46 f47 f48 _ hA.hn hA.hf (by (have hw1 := al_wide (u := u) hA (by assumption : way[k]? = some _) (by assumption : way[k + 1]? = some _) (by omega)); omega) (by omega)) ?_
  rintro _ h49 ⟨rfl, eh49⟩
  have E50 := E42.trans eh49
  have z51 := eh49.size
  refine s_pq (.int .i64 (over l (lkI n x38 x40) (lk n (lkI n x38 x40)) u)) <| s_nil <| p_seqN <| v_seq <| v_ops <| s_pq w <| s_pq (.int .i64 (over l (lkI n x38 x40) (lk n (lkI n x38 x40)) u)) <| s_pq (.int .i64 u) <| s_pure (.int .i64 ((over l (lkI n x38 x40) (lk n (lkI n x38 x40)) u) - u)) (fun _ q => ArithVC.mk (by (have hw1 := al_wide (u := u) hA (by assumption : way[k]? = some _) (by assumption : way[k + 1]? = some _) (by omega)); omega) q) <| s_pq (.pointer (some ⟨b1, 1, none⟩)) ?_
  have f52 := (f45.ext eh49)
  refine s_load v_n_links (fun _ q => f52.load rfl q) <| s_pq (.int .i64 (lkI n x38 x40)) ?_
  have f53 := (f47.ext eh49)
  have hk54 : ((lkI n x38 x40)).toNat < n.links.length := (by (have hw1 := al_wide (u := u) hA (by assumption : way[k]? = some _) (by assumption : way[k + 1]? = some _) (by omega)); omega)
  obtain ⟨x55, hx55⟩ : ∃ x, n.links[((lkI n x38 x40)).toNat]? = some x := ⟨_, List.getElem?_eq_getElem hk54⟩
  refine s_pure (.pointer (some ⟨sblk v_n_links, soff v_n_links + (((lkI n x38 x40)).toNat) * 3, none⟩)) (fun _ q => f53.idx (k := ((lkI n x38 x40)).toNat) (by (have hw1 := al_wide (u := u) hA (by assumption : way[k]? = some _) (by assumption : way[k + 1]? = some _) (by omega)); omega) hk54 q) <| s_pq (.pointer (some ⟨sblk v_n_links, soff v_n_links + (((lkI n x38 x40)).toNat) * 3 + 2, none⟩)) <| s_load (.int .i64 x55.delay) (fun _ q => f53.load hx55 (j := 2) rfl rfl q) <| s_pure (.int .i64 (((over l (lkI n x38 x40) (lk n (lkI n x38 x40)) u) - u) - x55.delay)) (fun _ q => ArithVC.mk (by (have hw1 := al_wide (u := u) hA (by assumption : way[k]? = some _) (by assumption : way[k + 1]? = some _) (by omega)); (have hq := hA.hn.at (by assumption : n.links[_]? = some _)); omega) q) ?_
  refine s_row (α := Int) [(((over l (lkI n x38 x40) (lk n (lkI n x38 x40)) u) - u) - x55.delay)] (fun _ q => seg_i rfl (seg_nil q)) rfl (by simp [maxLen]) (fun r56 h57 eh57 zh57 s_r56 fr_r56 => ?_)
  have E58 := E50.trans eh57
  have z59 := eh57.size
  have f60 := (((s_w.ext eh41).ext eh49).ext eh57)
  refine s_app f60 s_r56 rfl rfl rfl (by simp [maxLen]; omega) (by simp; omega) (fun r61 h62 mh62 zh62 s_r61 ab_r61 => ?_)
  have E63 := E58.mod mh62 (fun b hb => by have := fr_w b hb; omega)
  have fr_r61 := fr_w.app ab_r61 (by omega)
  have np64 : b1 ∉ blks r61 := fun hc => (ab_r61 _ hc).elim np_b1_w (fun hc => by omega)
  refine s_pq r61 <| s_nil <| p_seqN <| v_ops <| s_pq (.int .i64 (over l (lkI n x38 x40) (lk n (lkI n x38 x40)) u)) <| s_pq (.int .i64 (over l (lkI n x38 x40) (lk n (lkI n x38 x40)) u)) <| s_nil <| p_blkN <| p_seqN <| v_ops <| s_pure (.int .i64 ((k : Int) + 1)) (fun _ q => ArithVC.mk (by omega) q) <| s_pq (.int .i64 ((k : Int) + 1)) <| s_nil ?_
  have f66 := ((f52.ext eh57).mod mh62 np_b1_w)
  exact p_lpN ⟨k + 1, (over l (lkI n x38 x40) (lk n (lkI n x38 x40)) u), (ws ++ [(((over l (lkI n x38 x40) (lk n (lkI n x38 x40)) u) - u) - x55.delay)]), r61, ⟨rfl, rfl, rfl, rfl, rfl, rfl, rfl⟩, ⟨E63, f66, (sl_eq s_r61 (by simp)), (fr_r61.mono (by omega)), np64, (by exact ⟨by omega, al_step hA hs (by assumption : way[k]? = some _) (by assumption : way[k + 1]? = some _) (by assumption)⟩)⟩, by omega⟩
 refine v_exit <| p_seqX <| p_lpX <| p_blkX <| p_seqN <| v_seq <| v_ops <| s_pq w <| s_pq w <| s_pq (.bool true) <| s_nil <| p_seqN <| v_ret <| p_ret [w, .bool true] (.tuple #[w, .bool true]) (fun _ q => q) rfl ?_
 have ho : (waitsOf n l way t) = (ws, true) := by first | exact waits_end hA hs (by omega) | exact waits_no (fun h => by first | exact (by assumption : ¬ NetOk n) h.hn | exact (by assumption : ¬ FogsOk _ _) h.hf | exact (by assumption : ¬ (0 ≤ t ∧ _)) h.ht | exact (by assumption : ¬ WayOk n way) h.hw)
 exact ⟨w, by first | (rw [ho]; done) | rfl, sl_eq s_w (congrArg (fun o => o.1) ho).symm, fr_w.mono (by omega), Eh⟩

set_option maxRecDepth 10000 in
set_option maxHeartbeats 4000000 in
theorem impl_ArrivalAlong_ok (n : NetP) (v_n_towers : Value) (v_n_links : Value) (v_l : Value) (l : List FogD) (v_way : Value) (way : List Int) (t : Int) (h : Heap) (s_n_towers : Sl h v_n_towers n.towers) (s_n_links : Sl h v_n_links n.links) (s_l : Sl h v_l l) (s_way : Sl h v_way way) : Cn f_impl_ArrivalAlong [.agg #[v_n_towers, v_n_links], v_l, v_way, .int .i64 t] h fun v h' => v = .tuple #[.int .i64 ((arrivOf n l way t).1), .bool ((arrivOf n l way t).2)] ∧ Ext h h' := by
 have l63_n_towers := s_n_towers.len63
 have l63_n_links := s_n_links.len63
 have l63_l := s_l.len63
 have l63_way := s_way.len63
 refine calls_of r_impl_ArrivalAlong ?_
 refine v_seq <| v_ops ?_
 refine s_box [v_n_towers, v_n_links] rfl (fun h2 b1 hbb1 hzb1 eh2 bxb1 => ?_)
 have E3 := (Ext.refl h).trans eh2
 have z4 := eh2.size
 have lbb1 := bxb1.lt
 refine s_pq (.int .i64 0) <| s_pq (.bool false) <| s_nil <| p_seqN <| v_seq <| v_ops <| s_load (.agg #[v_n_towers, v_n_links]) (fun _ q => bxb1.loadA rfl q) <| s_pq v_l <| s_pq v_way <| s_pq (.int .i64 t) ?_
 have f5 := (s_n_towers.ext eh2)
 have f6 := (s_n_links.ext eh2)
 have f7 := (s_l.ext eh2)
 have f8 := (s_way.ext eh2)
 refine s_call [.agg #[v_n_towers, v_n_links], v_l, v_way, .int .i64 t] rfl (impl_WaitsAlong_ok n v_n_towers v_n_links v_l l v_way way t _ f5 f6 f7 f8) ?_
 rintro _ h10 ⟨r9, rfl, s_r9, fr_r9, eh10⟩
 have E11 := E3.trans eh10
 have z12 := eh10.size
 refine s_pq (.tuple #[r9, .bool ((waitsOf n l way t).2)]) <| s_pq r9 <| s_pq (.bool ((waitsOf n l way t).2)) <| s_pq r9 <| s_pq (.bool ((waitsOf n l way t).2)) <| s_nil <| p_seqN <| v_seq <| v_seq <| v_ops <| s_pq (.bool ((waitsOf n l way t).2)) <| s_pq (.bool (!(waitsOf n l way t).2)) <| s_nil <| p_seqN ?_
 refine v_cond rfl (fun c13 => ?_) (fun c13 => ?_)
 ·
  refine v_seq <| v_ops <| s_pq (.int .i64 0) <| s_pq (.bool false) <| s_nil <| p_seqN <| v_ret <| p_seqR <| p_ret [.int .i64 0, .bool false] (.tuple #[.int .i64 0, .bool false]) (fun _ q => q) rfl ?_
  have ho : (arrivOf n l way t) = (0, false) := by first | exact arriv_end hA hu (by omega) | exact arriv_no (by assumption)
  exact ⟨by first | (rw [ho]; done) | rfl, E11⟩
 have c13 := Classical.not_not.1 c13
 refine v_skip <| p_seqN <| v_seq <| v_seq <| v_ops <| s_pq r9 <| s_pure (.int .i64 (((waitsOf n l way t).1).length : Int)) (fun _ q => s_r9.lenVC q) <| s_pq (.int .i64 0) <| s_nil <| p_seqN <| v_block ?_
 have hA := along_ask (by assumption : (waitsOf n l way t).2 = true)
 have hwl := hA.hw.len
 have hll : (waitsOf n l way t).1.length = way.length - 1 := by rw [waitsOf, along_yes hA]; simp [alTo_len, linksOf_len]
 have nk15 : b1 ∉ blks r9 := (fun hc => by have := fr_r9 _ hc; omega)
 have f16 := (bxb1.ext eh10)
 refine v_loop2 (α := Nat) (β := Int) (fun k u => [(2, v_way), (3, .int .i64 u), (4, .pointer (some ⟨b1, 0, none⟩)), (24, r9), (25, .int .i64 (((waitsOf n l way t).1).length : Int)), (26, .int .i64 (k : Int))]) (fun k u hh => Ext h hh ∧ Bx hh b1 [v_n_towers, v_n_links] 26 ∧ SlO hh r9 ((waitsOf n l way t).1) ∧ k ≤ (waitsOf n l way t).1.length ∧ u = (alTo n l ((linksOf n way).take k) t).1) (fun k u => (waitsOf n l way t).1.length - k) 0 t ⟨rfl, rfl, rfl, rfl, rfl, rfl⟩ ⟨E11, f16, s_r9, (by simp [alTo])⟩ ?_
 rintro k u R17 h14 ⟨Eh, bxb1, s_r9, ⟨hk, hu⟩⟩
 have zEh := Eh.size
 have f19 := s_n_towers.ext Eh
 have f20 := s_n_links.ext Eh
 have f22 := s_way.ext Eh
 have lbb1 := bxb1.lt
 have ltk_r9 := s_r9.lt
 have hub := al_bd hA (k := k) (by omega)
 rw [← hu] at hub
 refine v_seq <| v_ops <| s_pq (.bool (decide ((k : Int) < (((waitsOf n l way t).1).length : Int)))) <| s_nil <| p_seqN <| v_seq ?_
 refine v_cond rfl (fun c23 => ?_) (fun c23 => ?_)
 ·
  refine v_skip <| p_seqN <| v_seq <| v_block <| v_seq <| v_ops <| s_pq (.int .i64 (k : Int)) ?_
  have hk24 : k < ((waitsOf n l way t).1).length := (by first | omega | (simp; omega))
  obtain ⟨x25, hx25⟩ : ∃ x, ((waitsOf n l way t).1)[k]? = some x := ⟨_, List.getElem?_eq_getElem hk24⟩
  refine s_pure (.pointer (some ⟨sblk r9, soff r9 + k * 1, none⟩)) (fun _ q => s_r9.idx (k := k) rfl hk24 q) <| s_load (.int .i64 x25) (fun _ q => s_r9.load1 hx25 rfl q) <| s_pq (.int .i64 (k : Int)) <| s_pq (.int .i64 x25) <| s_nil <| p_seqN ?_
  refine v_draw (DrawVC.hold ([b1]) ?_)
  refine d_pq (.int .i64 u) <| d_pq (.int .i64 x25) <| d_pq (.pointer (some ⟨b1, 1, none⟩)) <| d_pq v_way <| d_pq (.int .i64 (k : Int)) ?_
  have hk26 : k < way.length := (by first | omega | (simp; omega))
  obtain ⟨x27, hx27⟩ : ∃ x, way[k]? = some x := ⟨_, List.getElem?_eq_getElem hk26⟩
  refine d_pureT (.pointer (some ⟨sblk v_way, soff v_way + k * 1, none⟩)) (fun _ q => f22.idx (k := k) rfl hk26 q) <| d_pq v_way <| d_pq (.int .i64 (k : Int)) <| d_pureT (.int .i64 ((k : Int) + 1)) (fun _ q => ArithVC.mk (by omega) q) ?_
  have hk28 : (k + 1) < way.length := (by first | omega | (simp; omega))
  obtain ⟨x29, hx29⟩ : ∃ x, way[(k + 1)]? = some x := ⟨_, List.getElem?_eq_getElem hk28⟩
  refine d_pureT (.pointer (some ⟨sblk v_way, soff v_way + (k + 1) * 1, none⟩)) (fun _ q => f22.idx (k := (k + 1)) rfl hk28 q) <| d_loadO (.agg #[v_n_towers, v_n_links]) (fun _ q => bxb1.loadA rfl q) <| d_loadO (.int .i64 x27) (fun _ q => f22.load1 hx27 rfl q) <| d_loadO (.int .i64 x29) (fun _ q => f22.load1 hx29 rfl q) <| d_loadT v_n_links (fun _ q => bxb1.take (by simp) rfl q) <| d_eff <| s_call [.agg #[v_n_towers, v_n_links], .int .i64 x27, .int .i64 x29] rfl (impl_linkIndex_ok n v_n_towers v_n_links x27 x29 _ f19 f20 hA.hn) ?_
  rintro _ h30 ⟨rfl, eh30⟩
  have E31 := Eh.trans eh30
  have z32 := eh30.size
  have G33 := eh30
  refine s_nil ⟨fun _ x hx => G33.blk x (by simp at hx; omega), ?_⟩
  have f34 := (f20.ext eh30)
  have hk35 : ((lkI n x27 x29)).toNat < n.links.length := (by (have hw1 := al_wide (u := u) hA (by assumption : way[k]? = some _) (by assumption : way[k + 1]? = some _) (by omega)); omega)
  obtain ⟨x36, hx36⟩ : ∃ x, n.links[((lkI n x27 x29)).toNat]? = some x := ⟨_, List.getElem?_eq_getElem hk35⟩
  refine d_pureT (.pointer (some ⟨sblk v_n_links, soff v_n_links + (((lkI n x27 x29)).toNat) * 3, none⟩)) (fun _ q => f34.idx (k := ((lkI n x27 x29)).toNat) (by (have hw1 := al_wide (u := u) hA (by assumption : way[k]? = some _) (by assumption : way[k + 1]? = some _) (by omega)); omega) hk35 q) <| d_pq (.pointer (some ⟨sblk v_n_links, soff v_n_links + (((lkI n x27 x29)).toNat) * 3 + 2, none⟩)) <| d_loadO (.int .i64 x36.delay) (fun _ q => f34.load hx36 (j := 2) rfl rfl q) <| d_pureT (.int .i64 (x25 + x36.delay)) (fun _ q => ArithVC.mk (by (have hv := al_wait hA (by assumption : (waitsOf n l way t).1[k]? = some _) (by assumption : way[k]? = some _) (by assumption : way[k + 1]? = some _) (by assumption)); rw [← hu] at hv; (have hb2 := al_bd hA (k := k + 1) (by omega)); (have hq := hA.hn.at (by assumption : n.links[_]? = some _)); omega) q) ?_
  refine d_pureT (.int .i64 (u + (x25 + x36.delay))) (fun _ q => ArithVC.mk (by (have hv := al_wait hA (by assumption : (waitsOf n l way t).1[k]? = some _) (by assumption : way[k]? = some _) (by assumption : way[k + 1]? = some _) (by assumption)); rw [← hu] at hv; (have hb2 := al_bd hA (k := k + 1) (by omega)); (have hq := hA.hn.at (by assumption : n.links[_]? = some _)); omega) q) <| d_pq (.int .i64 (u + (x25 + x36.delay))) <| d_done <| p_blkN <| p_seqN <| v_ops <| s_pure (.int .i64 ((k : Int) + 1)) (fun _ q => ArithVC.mk (by omega) q) ?_
  refine s_pq (.int .i64 ((k : Int) + 1)) <| s_nil ?_
  have f37 := (bxb1.ext eh30)
  have f38 := (s_r9.ext eh30)
  exact p_lpN ⟨k + 1, (u + (x25 + x36.delay)), ⟨rfl, rfl, rfl, rfl, rfl, rfl⟩, ⟨E31, f37, f38, (by exact ⟨by omega, by (rw [al_wait hA (by assumption) (by assumption : way[k]? = some _) (by assumption : way[k + 1]? = some _) (by assumption), ← hu])⟩)⟩, by omega⟩
 refine v_exit <| p_seqX <| p_lpX <| p_blkX <| p_seqN <| v_seq <| v_ops <| s_pq (.int .i64 u) <| s_pq (.int .i64 u) <| s_pq (.bool true) <| s_nil <| p_seqN <| v_ret <| p_ret [.int .i64 u, .bool true] (.tuple #[.int .i64 u, .bool true]) (fun _ q => q) rfl ?_
 have ho : (arrivOf n l way t) = (u, true) := by first | exact arriv_end hA hu (by omega) | exact arriv_no (by assumption)
 exact ⟨by first | (rw [ho]; done) | rfl, Eh⟩

set_option maxRecDepth 10000 in
set_option maxHeartbeats 4000000 in
theorem spec_roLinks_ok (n : NetP) (v_n_towers : Value) (v_n_links : Value) (v_way : Value) (way : List Int) (h : Heap) (s_n_towers : Sl h v_n_towers n.towers) (s_n_links : Sl h v_n_links n.links) (s_way : Sl h v_way way) (hn : NetOk n) : Cn f_spec_roLinks [.agg #[v_n_towers, v_n_links], v_way] h fun v h' => ∃ r0 : Value, v = .tuple #[r0, .bool ((lnkOf n way).2)] ∧ SlO h' r0 ((lnkOf n way).1) ∧ Fr h.size r0 ∧ Ext h h' := by
 have l63_n_towers := s_n_towers.len63
 have l63_n_links := s_n_links.len63
 have l63_way := s_way.len63
 refine calls_of r_spec_roLinks ?_
 refine v_seq <| v_ops ?_
 refine s_box [v_n_towers, v_n_links] rfl (fun h2 b1 hbb1 hzb1 eh2 bxb1 => ?_)
 have E3 := (Ext.refl h).trans eh2
 have z4 := eh2.size
 have lbb1 := bxb1.lt
 refine s_pq (.slice none 0 0) <| s_pq (.bool false) <| s_nil <| p_seqN <| v_seq <| v_seq <| v_ops <| s_pq v_way <| s_pure (.int .i64 (way.length : Int)) (fun _ q => s_way.lenVC q) <| s_callS [.int .i64 (way.length : Int), .int .i64 1, .int .i64 16] (.bool (decide (1 ≤ (way.length : Int) ∧ (way.length : Int) ≤ 16))) rfl (l1In_ok (way.length : Int) 1 16 _ ) <| s_pq (.bool (!(decide (1 ≤ (way.length : Int) ∧ (way.length : Int) ≤ 16)))) <| s_pq (.bool (!(decide (1 ≤ (way.length : Int) ∧ (way.length : Int) ≤ 16)))) ?_
 refine s_splitT rfl (fun c5 => ?_) (fun c5 => ?_)
 ·
  refine s_pass rfl <| s_pass rfl <| s_pass rfl <| s_pass rfl <| s_pass rfl <| s_pass rfl <| s_pass rfl <| s_pq (.bool true) <| s_nil <| p_seqN <| v_condY rfl rfl <| v_seq <| v_ops <| s_pq (.slice none 0 0) <| s_pq (.bool false) <| s_nil <| p_seqN <| v_ret <| p_seqR <| p_ret [.slice none 0 0, .bool false] (.tuple #[.slice none 0 0, .bool false]) (fun _ q => q) rfl ?_
  have ho : (lnkOf n way) = ([], false) := by first | exact lnk_no (fun h => by (have := h.len); omega) | exact lnk_no (fun h => absurd h.all (by assumption)) | exact rl_bad (by assumption : way[j]? = some _) (by assumption : way[j + 1]? = some _) (.inl (by assumption)) | exact rl_bad (by assumption : way[j]? = some _) (by assumption : way[j + 1]? = some _) (.inr (by assumption)) | (rw [lnk_yes (way_yes (by omega) (by assumption) hw (by omega)), ho, linksOf, show way.length - 1 = j by omega])
  exact ⟨(.slice none 0 0), by first | (rw [ho]; done) | rfl, sl_eq (SlX.nil (α := Int) true _) (congrArg (fun o => o.1) ho).symm, Fr.nil _, E3⟩
 have c5 := Classical.not_not.1 c5
 refine s_run rfl <| s_pq v_way <| s_run rfl <| s_pq (.pointer (some ⟨b1, 0, none⟩)) <| s_run rfl <| s_load v_n_towers (fun _ q => bxb1.load rfl q) <| s_run rfl <| s_pure (.int .i64 (n.towers.length : Int)) (fun _ q => s_n_towers.lenVC q) <| s_run rfl <| s_pure (.int .i64 ((n.towers.length : Int) - 1)) (fun _ q => ArithVC.mk (by omega) q) <| s_run rfl ?_
 have f6 := (s_way.ext eh2)
 refine s_callS [v_way, .int .i64 0, .int .i64 ((n.towers.length : Int) - 1)] (.bool (decide (AllIn 0 ((n.towers.length : Int) - 1) way))) rfl (l1All_ok v_way way 0 ((n.towers.length : Int) - 1) _ f6) ?_
 refine s_run rfl <| s_pq (.bool (!(decide (AllIn 0 ((n.towers.length : Int) - 1) way)))) <| s_pq (.bool (!(decide (AllIn 0 ((n.towers.length : Int) - 1) way)))) <| s_nil <| p_seqN ?_
 refine v_cond rfl (fun c7 => ?_) (fun c7 => ?_)
 ·
  refine v_seq <| v_ops <| s_pq (.slice none 0 0) <| s_pq (.bool false) <| s_nil <| p_seqN <| v_ret <| p_seqR <| p_ret [.slice none 0 0, .bool false] (.tuple #[.slice none 0 0, .bool false]) (fun _ q => q) rfl ?_
  have ho : (lnkOf n way) = ([], false) := by first | exact lnk_no (fun h => by (have := h.len); omega) | exact lnk_no (fun h => absurd h.all (by assumption)) | exact rl_bad (by assumption : way[j]? = some _) (by assumption : way[j + 1]? = some _) (.inl (by assumption)) | exact rl_bad (by assumption : way[j]? = some _) (by assumption : way[j + 1]? = some _) (.inr (by assumption)) | (rw [lnk_yes (way_yes (by omega) (by assumption) hw (by omega)), ho, linksOf, show way.length - 1 = j by omega])
  exact ⟨(.slice none 0 0), by first | (rw [ho]; done) | rfl, sl_eq (SlX.nil (α := Int) true _) (congrArg (fun o => o.1) ho).symm, Fr.nil _, E3⟩
 have c7 := Classical.not_not.1 c7
 refine v_skip <| p_seqN <| v_seq <| v_ops <| s_pq (.slice none 0 0) <| s_nil <| p_seqN <| v_seq <| v_seq <| v_ops <| s_pq (.int .i64 1) <| s_nil <| p_seqN <| v_block <| v_loop3 (α := Nat) (β := List Int) (γ := Value) (fun j o w => [(1, v_way), (2, .pointer (some ⟨b1, 0, none⟩)), (6, w), (7, .int .i64 ((j : Int) + 1))]) (fun j o w hh => Ext h hh ∧ Bx hh b1 [v_n_towers, v_n_links] 26 ∧ SlO hh w o ∧ Fr h.size w ∧ b1 ∉ blks w ∧ j + 1 ≤ way.length ∧ WayTo n way (j + 1) ∧ o = linksTo n way j) (fun j o w => way.length - j) 0 [] (.slice none 0 0) ⟨rfl, rfl, rfl, rfl⟩ ⟨E3, bxb1, (sl_eq (SlX.nil (α := Int) true h2) (by simp)), (Fr.nil _), (by simp [blks, fpts]), (by exact ⟨by omega, fun i x hi hx => ⟨by (obtain rfl : i = 0 := (by omega)); simp, fun h0 => by omega⟩, rfl⟩)⟩ ?_
 rintro j o w R9 h8 ⟨Eh, bxb1, s_w, fr_w, np_b1_w, ⟨hk, hw, ho⟩⟩
 have zEh := Eh.size
 have f11 := s_n_towers.ext Eh
 have f12 := s_n_links.ext Eh
 have f13 := s_way.ext Eh
 have lbb1 := bxb1.lt
 have hol : o.length = j := by rw [ho, linksTo_len]
 refine v_seq <| v_seq <| v_ops <| s_pq (.int .i64 ((j : Int) + 1)) <| s_pq v_way <| s_pure (.int .i64 (way.length : Int)) (fun _ q => f13.lenVC q) <| s_pq (.bool (decide (((j : Int) + 1) < (way.length : Int)))) <| s_nil <| p_seqN ?_
 refine v_cond rfl (fun c14 => ?_) (fun c14 => ?_)
 ·
  refine v_skip <| p_seqN <| v_seq <| v_block <| v_seq <| v_drawF <| d_pq v_way <| d_pq (.int .i64 ((j : Int) + 1)) <| d_pureT (.int .i64 (((j : Int) + 1) - 1)) (fun _ q => ArithVC.mk (by omega) q) ?_
  have hk15 : j < way.length := (by first | omega | (simp; omega))
  obtain ⟨x16, hx16⟩ : ∃ x, way[j]? = some x := ⟨_, List.getElem?_eq_getElem hk15⟩
  refine d_pureT (.pointer (some ⟨sblk v_way, soff v_way + j * 1, none⟩)) (fun _ q => f13.idx (k := j) (by omega) hk15 q) <| d_pq v_way <| d_pq (.int .i64 ((j : Int) + 1)) ?_
  have hk17 : (j + 1) < way.length := (by first | omega | (simp; omega))
  obtain ⟨x18, hx18⟩ : ∃ x, way[(j + 1)]? = some x := ⟨_, List.getElem?_eq_getElem hk17⟩
  refine d_pureT (.pointer (some ⟨sblk v_way, soff v_way + (j + 1) * 1, none⟩)) (fun _ q => f13.idx (k := (j + 1)) rfl hk17 q) <| d_loadO (.agg #[v_n_towers, v_n_links]) (fun _ q => bxb1.loadA rfl q) <| d_loadO (.int .i64 x16) (fun _ q => f13.load1 hx16 rfl q) <| d_loadO (.int .i64 x18) (fun _ q => f13.load1 hx18 rfl q) <| d_eff <| s_call [.agg #[v_n_towers, v_n_links], .int .i64 x16, .int .i64 x18] rfl (spec_neLink_ok n v_n_towers v_n_links x16 x18 _ f11 f12) ?_
  rintro _ h19 ⟨rfl, eh19⟩
  have E20 := Eh.trans eh19
  have z21 := eh19.size
  refine s_nil ⟨fun hl => (by cases hl), ?_⟩
  refine d_pq (.int .i64 (lkI n x16 x18)) <| d_done <| p_seqN <| v_seq <| v_seq <| v_drawF <| d_pq (.int .i64 (lkI n x16 x18)) <| d_pq (.bool (decide ((lkI n x16 x18) < 0))) <| d_pq (.bool (decide ((lkI n x16 x18) < 0))) ?_
  refine d_splitT rfl (fun c23 => ?_) (fun c23 => ?_)
  ·
   refine d_passT rfl <| d_passT rfl <| d_passT rfl <| d_passT rfl <| d_passT rfl <| d_passT rfl <| d_passO rfl <| d_passO rfl <| d_pq (.bool true) <| d_done <| p_seqN <| v_condY rfl rfl <| v_seq <| v_ops <| s_pq (.slice none 0 0) <| s_pq (.bool false) <| s_nil <| p_seqN <| v_ret <| p_seqR <| p_blkR <| p_seqR <| p_lpR <| p_blkR <| p_seqR <| p_ret [.slice none 0 0, .bool false] (.tuple #[.slice none 0 0, .bool false]) (fun _ q => q) rfl ?_
   have ho : (lnkOf n way) = ([], false) := by first | exact lnk_no (fun h => by (have := h.len); omega) | exact lnk_no (fun h => absurd h.all (by assumption)) | exact rl_bad (by assumption : way[j]? = some _) (by assumption : way[j + 1]? = some _) (.inl (by assumption)) | exact rl_bad (by assumption : way[j]? = some _) (by assumption : way[j + 1]? = some _) (.inr (by assumption)) | (rw [lnk_yes (way_yes (by omega) (by assumption) hw (by omega)), ho, linksOf, show way.length - 1 = j by omega])
   exact ⟨(.slice none 0 0), by first | (rw [ho]; done) | rfl, sl_eq (SlX.nil (α := Int) true _) (congrArg (fun o => o.1) ho).symm, Fr.nil _, E20⟩
  refine d_runT rfl <| d_pq v_way <| d_runT rfl <| d_pq (.int .i64 ((j : Int) + 1)) <| d_runT rfl ?_
  have f24 := (f13.ext eh19)
  obtain ⟨r25, hqr25, s_r25, bk_r25⟩ := f24.slc (l := 0) (m := (j + 1)) (by first | omega | (simp; omega)) (by first | omega | (simp; omega))
  simp only [List.drop_zero] at s_r25
  refine d_pureT r25 (fun K q => hqr25 _ rfl none (some (.int .i64 ((j : Int) + 1))) rfl ⟨_, _, rfl, rfl⟩ K q) <| d_runT rfl <| d_pq v_way <| d_runT rfl <| d_pq (.int .i64 ((j : Int) + 1)) <| d_runT rfl <| d_pureT (.pointer (some ⟨sblk v_way, soff v_way + (j + 1) * 1, none⟩)) (fun _ q => f24.idx (k := (j + 1)) rfl hk17 q) <| d_runO rfl <| d_loadO (.int .i64 x18) (fun _ q => f24.load1 hx18 rfl q) <| d_runO rfl <| d_eff <| s_call [r25, .int .i64 x18] rfl (spec_l1Has_ok r25 (way.take (j + 1)) x18 _ s_r25) ?_
  rintro _ h26 ⟨rfl, eh26⟩
  have E27 := E20.trans eh26
  have z28 := eh26.size
  refine s_nil ⟨fun hl => (by cases hl), ?_⟩
  refine d_pq (.bool (decide (x18 ∈ (way.take (j + 1))))) <| d_done <| p_seqN ?_
  refine v_cond rfl (fun c30 => ?_) (fun c30 => ?_)
  ·
   refine v_seq <| v_ops <| s_pq (.slice none 0 0) <| s_pq (.bool false) <| s_nil <| p_seqN <| v_ret <| p_seqR <| p_blkR <| p_seqR <| p_lpR <| p_blkR <| p_seqR <| p_ret [.slice none 0 0, .bool false] (.tuple #[.slice none 0 0, .bool false]) (fun _ q => q) rfl ?_
   have ho : (lnkOf n way) = ([], false) := by first | exact lnk_no (fun h => by (have := h.len); omega) | exact lnk_no (fun h => absurd h.all (by assumption)) | exact rl_bad (by assumption : way[j]? = some _) (by assumption : way[j + 1]? = some _) (.inl (by assumption)) | exact rl_bad (by assumption : way[j]? = some _) (by assumption : way[j + 1]? = some _) (.inr (by assumption)) | (rw [lnk_yes (way_yes (by omega) (by assumption) hw (by omega)), ho, linksOf, show way.length - 1 = j by omega])
   exact ⟨(.slice none 0 0), by first | (rw [ho]; done) | rfl, sl_eq (SlX.nil (α := Int) true _) (congrArg (fun o => o.1) ho).symm, Fr.nil _, E27⟩
  refine v_skip <| p_seqN <| v_ops <| s_pq w <| s_pq (.int .i64 (lkI n x16 x18)) ?_
  refine s_row (α := Int) [(lkI n x16 x18)] (fun _ q => seg_i rfl (seg_nil q)) rfl (by simp [maxLen]) (fun r31 h32 eh32 zh32 s_r31 fr_r31 => ?_)
  have E33 := E27.trans eh32
  have z34 := eh32.size
  have f35 := (((s_w.ext eh19).ext eh26).ext eh32)
  refine s_app f35 s_r31 rfl rfl rfl (by simp [maxLen]; omega) (by simp; omega) (fun r36 h37 mh37 zh37 s_r36 ab_r36 => ?_)
  have E38 := E33.mod mh37 (fun b hb => by have := fr_w b hb; omega)
  have fr_r36 := fr_w.app ab_r36 (by omega)
  have np39 : b1 ∉ blks r36 := fun hc => (ab_r36 _ hc).elim np_b1_w (fun hc => by omega)
  refine s_pq r36 <| s_nil <| p_blkN <| p_seqN <| v_ops <| s_pq (.int .i64 ((j : Int) + 1)) <| s_pure (.int .i64 (((j : Int) + 1) + 1)) (fun _ q => ArithVC.mk (by omega) q) <| s_pq (.int .i64 (((j : Int) + 1) + 1)) <| s_nil ?_
  have f41 := ((((bxb1.ext eh19).ext eh26).ext eh32).mod mh37 np_b1_w)
  exact p_lpN ⟨j + 1, (o ++ [(lkI n x16 x18)]), r36, ⟨rfl, rfl, rfl, rfl⟩, ⟨E38, f41, (sl_eq s_r36 (by simp)), (fr_r36.mono (by omega)), np39, (by exact ⟨by omega, rl_step hw (by assumption : way[j]? = some _) (by assumption : way[j + 1]? = some _) (by assumption) (by assumption), by rw [ho, linksTo_at (by assumption : way[j]? = some _) (by assumption : way[j + 1]? = some _)]⟩)⟩, by omega⟩
 refine v_exit <| p_seqX <| p_lpX <| p_blkX <| p_seqN <| v_seq <| v_ops <| s_pq w <| s_pq w <| s_pq (.bool true) <| s_nil <| p_seqN <| v_ret <| p_ret [w, .bool true] (.tuple #[w, .bool true]) (fun _ q => q) rfl ?_
 have ho : (lnkOf n way) = (o, true) := by first | exact lnk_no (fun h => by (have := h.len); omega) | exact lnk_no (fun h => absurd h.all (by assumption)) | exact rl_bad (by assumption : way[j]? = some _) (by assumption : way[j + 1]? = some _) (.inl (by assumption)) | exact rl_bad (by assumption : way[j]? = some _) (by assumption : way[j + 1]? = some _) (.inr (by assumption)) | (rw [lnk_yes (way_yes (by omega) (by assumption) hw (by omega)), ho, linksOf, show way.length - 1 = j by omega])
 exact ⟨w, by first | (rw [ho]; done) | rfl, sl_eq s_w (congrArg (fun o => o.1) ho).symm, fr_w.mono (by omega), Eh⟩

set_option maxRecDepth 10000 in
set_option maxHeartbeats 4000000 in
theorem spec_roAlong_ok (n : NetP) (v_n_towers : Value) (v_n_links : Value) (v_l : Value) (l : List FogD) (v_way : Value) (way : List Int) (t : Int) (h : Heap) (s_n_towers : Sl h v_n_towers n.towers) (s_n_links : Sl h v_n_links n.links) (s_l : Sl h v_l l) (s_way : Sl h v_way way) : Cn f_spec_roAlong [.agg #[v_n_towers, v_n_links], v_l, v_way, .int .i64 t] h fun v h' => ∃ r0 : Value, v = .tuple #[.int .i64 ((alongOf n l way t).1), r0, .bool ((alongOf n l way t).2.2)] ∧ SlO h' r0 ((alongOf n l way t).2.1) ∧ Fr h.size r0 ∧ Ext h h' := by
 have l63_n_towers := s_n_towers.len63
 have l63_n_links := s_n_links.len63
 have l63_l := s_l.len63
 have l63_way := s_way.len63
 refine calls_of r_spec_roAlong ?_
 refine v_seq <| v_ops ?_
 refine s_box [v_n_towers, v_n_links] rfl (fun h2 b1 hbb1 hzb1 eh2 bxb1 => ?_)
 have E3 := (Ext.refl h).trans eh2
 have z4 := eh2.size
 have lbb1 := bxb1.lt
 refine s_pq (.int .i64 0) <| s_pq (.slice none 0 0) <| s_pq (.bool false) <| s_nil <| p_seqN <| v_seq <| v_seq <| v_ops <| s_load (.agg #[v_n_towers, v_n_links]) (fun _ q => bxb1.loadA rfl q) <| s_pq v_l <| s_pq (.int .i64 t) ?_
 have f5 := (s_n_towers.ext eh2)
 have f6 := (s_n_links.ext eh2)
 have f7 := (s_l.ext eh2)
 refine s_call [.agg #[v_n_towers, v_n_links], v_l, .int .i64 t] rfl (spec_roGood_ok n v_n_towers v_n_links v_l l t _ f5 f6 f7) ?_
 rintro _ h8 ⟨rfl, eh8⟩
 have E9 := E3.trans eh8
 have z10 := eh8.size
 refine s_pq (.bool (!(decide (NetOk n ∧ FogsOk n.links.length l ∧ (0 ≤ t ∧ t ≤ 10000))))) <| s_nil <| p_seqN ?_
 refine v_cond rfl (fun c11 => ?_) (fun c11 => ?_)
 ·
  refine v_seq <| v_ops <| s_pq (.int .i64 0) <| s_pq (.slice none 0 0) <| s_pq (.bool false) <| s_nil <| p_seqN <| v_ret <| p_seqR <| p_ret [.int .i64 0, .slice none 0 0, .bool false] (.tuple #[.int .i64 0, .slice none 0 0, .bool false]) (fun _ q => q) rfl ?_
  have ho : (alongOf n l way t) = (0, [], false) := by first | exact al_end hA hs (by omega) | exact along_no (fun h => (by assumption : ¬ (NetOk n ∧ FogsOk n.links.length l ∧ (0 ≤ t ∧ t ≤ 10000))) ⟨h.hn, h.hf, h.ht⟩) | exact along_no (fun h => by (have e := lnk_yes h.hw); simp [e] at *)
  exact ⟨(.slice none 0 0), by first | (rw [ho]; done) | rfl, sl_eq (SlX.nil (α := Int) true _) (congrArg (fun o => o.2.1) ho).symm, Fr.nil _, E9⟩
 have c11 := Classical.not_not.1 c11
 refine v_skip <| p_seqN <| v_seq <| v_ops ?_
 have f12 := (bxb1.ext eh8)
 refine s_load (.agg #[v_n_towers, v_n_links]) (fun _ q => f12.loadA rfl q) <| s_pq v_way ?_
 have f13 := (f5.ext eh8)
 have f14 := (f6.ext eh8)
 have f15 := ((s_way.ext eh2).ext eh8)
 refine s_call [.agg #[v_n_towers, v_n_links], v_way] rfl (spec_roLinks_ok n v_n_towers v_n_links v_way way _ f13 f14 f15 (by assumption : NetOk n ∧ FogsOk n.links.length l ∧ (0 ≤ t ∧ t ≤ 10000)).1) ?_
 rintro _ h17 ⟨r16, rfl, s_r16, fr_r16, eh17⟩
 have E18 := E9.trans eh17
 have z19 := eh17.size
 refine s_pq (.tuple #[r16, .bool ((lnkOf n way).2)]) <| s_pq r16 <| s_pq (.bool ((lnkOf n way).2)) <| s_pq r16 <| s_pq (.bool ((lnkOf n way).2)) <| s_nil <| p_seqN <| v_seq <| v_seq <| v_ops <| s_pq (.bool ((lnkOf n way).2)) <| s_pq (.bool (!(lnkOf n way).2)) <| s_nil <| p_seqN ?_
 refine v_cond rfl (fun c20 => ?_) (fun c20 => ?_)
 ·
  refine v_seq <| v_ops <| s_pq (.int .i64 0) <| s_pq (.slice none 0 0) <| s_pq (.bool false) <| s_nil <| p_seqN <| v_ret <| p_seqR <| p_ret [.int .i64 0, .slice none 0 0, .bool false] (.tuple #[.int .i64 0, .slice none 0 0, .bool false]) (fun _ q => q) rfl ?_
  have ho : (alongOf n l way t) = (0, [], false) := by first | exact al_end hA hs (by omega) | exact along_no (fun h => (by assumption : ¬ (NetOk n ∧ FogsOk n.links.length l ∧ (0 ≤ t ∧ t ≤ 10000))) ⟨h.hn, h.hf, h.ht⟩) | exact along_no (fun h => by (have e := lnk_yes h.hw); simp [e] at *)
  exact ⟨(.slice none 0 0), by first | (rw [ho]; done) | rfl, sl_eq (SlX.nil (α := Int) true _) (congrArg (fun o => o.2.1) ho).symm, Fr.nil _, E18⟩
 have c20 := Classical.not_not.1 c20
 refine v_skip <| p_seqN <| v_seq <| v_ops <| s_pq (.slice none 0 0) <| s_nil <| p_seqN <| v_seq <| v_seq <| v_ops <| s_pq r16 <| s_pure (.int .i64 (((lnkOf n way).1).length : Int)) (fun _ q => s_r16.lenVC q) <| s_pq (.int .i64 0) <| s_nil <| p_seqN <| v_block ?_
 have hA : AlongAsk n l way t := ⟨(by assumption : NetOk n ∧ FogsOk n.links.length l ∧ (0 ≤ t ∧ t ≤ 10000)).1, (by assumption : NetOk n ∧ FogsOk n.links.length l ∧ (0 ≤ t ∧ t ≤ 10000)).2.1, (by assumption : NetOk n ∧ FogsOk n.links.length l ∧ (0 ≤ t ∧ t ≤ 10000)).2.2, lnk_ask (by assumption)⟩
 have hwl := hA.hw.len
 have hlk : (lnkOf n way).1 = linksOf n way := by rw [lnk_yes hA.hw]
 have hll : (lnkOf n way).1.length = way.length - 1 := by rw [hlk, linksOf_len]
 have nk22 : b1 ∉ blks r16 := (fun hc => by have := fr_r16 _ hc; omega)
 have f23 := (f12.ext eh17)
 refine v_loop4 (α := Nat) (β := Int) (γ := List Int) (δ := Value) (fun k u ws w => [(1, v_l), (3, .int .i64 u), (4, .pointer (some ⟨b1, 0, none⟩)), (13, w), (30, r16), (31, .int .i64 (((lnkOf n way).1).length : Int)), (32, .int .i64 (k : Int))]) (fun k u ws w hh => Ext h hh ∧ Bx hh b1 [v_n_towers, v_n_links] 26 ∧ SlO hh w ws ∧ Fr h.size w ∧ SlO hh r16 ((lnkOf n way).1) ∧ b1 ∉ blks w ∧ (∀ b ∈ blks r16, b ∉ blks w) ∧ k ≤ (lnkOf n way).1.length ∧ (u, ws) = alTo n l ((linksOf n way).take k) t) (fun k u ws w => (lnkOf n way).1.length - k) 0 t [] (.slice none 0 0) ⟨rfl, rfl, rfl, rfl, rfl, rfl, rfl⟩ ⟨E18, f23, (sl_eq (SlX.nil (α := Int) true h17) (by simp)), (Fr.nil _), s_r16, (by simp [blks, fpts]), (fun b hb hc => by simp [blks, fpts] at hc), (by simp [alTo])⟩ ?_
 rintro k u ws w R24 h21 ⟨Eh, bxb1, s_w, fr_w, s_r16, np_b1_w, np_r16_w, ⟨hk, hs⟩⟩
 have zEh := Eh.size
 have f26 := s_n_towers.ext Eh
 have f27 := s_n_links.ext Eh
 have f28 := s_l.ext Eh
 have lbb1 := bxb1.lt
 have ltk_r16 := s_r16.lt
 have hub := al_bd2 hA hs (by omega)
 refine v_seq <| v_ops <| s_pq (.bool (decide ((k : Int) < (((lnkOf n way).1).length : Int)))) <| s_nil <| p_seqN <| v_seq ?_
 refine v_cond rfl (fun c30 => ?_) (fun c30 => ?_)
 ·
  refine v_skip <| p_seqN <| v_seq <| v_block <| v_seq <| v_ops ?_
  have hk31 : k < ((lnkOf n way).1).length := (by first | omega | (simp; omega))
  obtain ⟨x32, hx32⟩ : ∃ x, ((lnkOf n way).1)[k]? = some x := ⟨_, List.getElem?_eq_getElem hk31⟩
  refine s_pure (.pointer (some ⟨sblk r16, soff r16 + k * 1, none⟩)) (fun _ q => s_r16.idx (k := k) rfl hk31 q) <| s_load (.int .i64 x32) (fun _ q => s_r16.load1 hx32 rfl q) <| s_pq (.int .i64 x32) <| s_nil <| p_seqN <| v_seq <| v_ops <| s_load (.agg #[v_n_towers, v_n_links]) (fun _ q => bxb1.loadA rfl q) <| s_pq v_l <| s_pq (.int .i64 x32) <| s_pq (.int .i64 u) <| s_call [.agg #[v_n_towers, v_n_links], v_l, .int .i64 x32, .int .i64 u] rfl (spec_roOver_ok n v_n_towers v_n_links v_l l x32 u _ f26 f27 f28 _ hA.hn hA.hf (by (have hw1 := al_wide2 (u := u) hA (hlk ▸ (by assumption : (lnkOf n way).1[k]? = some _)) (by omega)); omega) (by omega)) ?_
  rintro _ h33 ⟨rfl, eh33⟩
  have E34 := Eh.trans eh33
  have z35 := eh33.size
  refine s_pq (.int .i64 (over l x32 (lk n x32) u)) <| s_nil <| p_seqN <| v_seq <| v_ops <| s_pq w <| s_pq (.int .i64 (over l x32 (lk n x32) u)) <| s_pq (.int .i64 u) <| s_pure (.int .i64 ((over l x32 (lk n x32) u) - u)) (fun _ q => ArithVC.mk (by (have hw1 := al_wide2 (u := u) hA (hlk ▸ (by assumption : (lnkOf n way).1[k]? = some _)) (by omega)); omega) q) <| s_pq (.pointer (some ⟨b1, 1, none⟩)) ?_
  have f36 := (bxb1.ext eh33)
  refine s_load v_n_links (fun _ q => f36.load rfl q) <| s_pq (.int .i64 x32) ?_
  have f37 := (f27.ext eh33)
  have hk38 : (x32).toNat < n.links.length := (by (have hw1 := al_wide2 (u := u) hA (hlk ▸ (by assumption : (lnkOf n way).1[k]? = some _)) (by omega)); omega)
  obtain ⟨x39, hx39⟩ : ∃ x, n.links[(x32).toNat]? = some x := ⟨_, List.getElem?_eq_getElem hk38⟩
  refine s_pure (.pointer (some ⟨sblk v_n_links, soff v_n_links + ((x32).toNat) * 3, none⟩)) (fun _ q => f37.idx (k := (x32).toNat) (by (have hw1 := al_wide2 (u := u) hA (hlk ▸ (by assumption : (lnkOf n way).1[k]? = some _)) (by omega)); omega) hk38 q) <| s_pq (.pointer (some ⟨sblk v_n_links, soff v_n_links + ((x32).toNat) * 3 + 2, none⟩)) <| s_load (.int .i64 x39.delay) (fun _ q => f37.load hx39 (j := 2) rfl rfl q) <| s_pure (.int .i64 (((over l x32 (lk n x32) u) - u) - x39.delay)) (fun _ q => ArithVC.mk (by (have hw1 := al_wide2 (u := u) hA (hlk ▸ (by assumption : (lnkOf n way).1[k]? = some _)) (by omega)); (have hq := hA.hn.at (by assumption : n.links[_]? = some _)); omega) q) ?_
  refine s_row (α := Int) [(((over l x32 (lk n x32) u) - u) - x39.delay)] (fun _ q => seg_i rfl (seg_nil q)) rfl (by simp [maxLen]) (fun r40 h41 eh41 zh41 s_r40 fr_r40 => ?_)
  have E42 := E34.trans eh41
  have z43 := eh41.size
  have f44 := ((s_w.ext eh33).ext eh41)
  refine s_app f44 s_r40 rfl rfl rfl (by simp [maxLen]; omega) (by simp; omega) (fun r45 h46 mh46 zh46 s_r45 ab_r45 => ?_)
  have E47 := E42.mod mh46 (fun b hb => by have := fr_w b hb; omega)
  have fr_r45 := fr_w.app ab_r45 (by omega)
  have np48 : b1 ∉ blks r45 := fun hc => (ab_r45 _ hc).elim np_b1_w (fun hc => by omega)
  have np50 : ∀ b ∈ blks r16, b ∉ blks r45 := fun b hb hc => (ab_r45 _ hc).elim ((np_r16_w : ∀ b ∈ blks r16, b ∉ blks w) b hb) (fun hc => by have := ltk_r16 b hb; omega)
  refine s_pq r45 <| s_nil <| p_seqN <| v_ops <| s_pq (.int .i64 (over l x32 (lk n x32) u)) <| s_pq (.int .i64 (over l x32 (lk n x32) u)) <| s_nil <| p_blkN <| p_seqN <| v_ops <| s_pure (.int .i64 ((k : Int) + 1)) (fun _ q => ArithVC.mk (by omega) q) <| s_pq (.int .i64 ((k : Int) + 1)) <| s_nil ?_
  have f52 := ((f36.ext eh41).mod mh46 np_b1_w)
  have f53 := (((s_r16.ext eh33).ext eh41).mod mh46 np_r16_w)
  exact p_lpN ⟨k + 1, (over l x32 (lk n x32) u), (ws ++ [(((over l x32 (lk n x32) u) - u) - x39.delay)]), r45, ⟨rfl, rfl, rfl, rfl, rfl, rfl, rfl⟩, ⟨E47, f52, (sl_eq s_r45 (by simp)), (fr_r45.mono (by omega)), f53, np48, np50, (by exact ⟨by omega, al_step2 hA hs (by rw [← hlk]; assumption) (by assumption)⟩)⟩, by omega⟩
 refine v_exit <| p_seqX <| p_lpX <| p_blkX <| p_seqN <| v_seq <| v_ops <| s_pq (.int .i64 u) <| s_pq w <| s_pq (.int .i64 u) <| s_pq w <| s_pq (.bool true) <| s_nil <| p_seqN <| v_ret <| p_ret [.int .i64 u, w, .bool true] (.tuple #[.int .i64 u, w, .bool true]) (fun _ q => q) rfl ?_
 have ho : (alongOf n l way t) = (u, ws, true) := by first | exact al_end hA hs (by omega) | exact along_no (fun h => (by assumption : ¬ (NetOk n ∧ FogsOk n.links.length l ∧ (0 ≤ t ∧ t ≤ 10000))) ⟨h.hn, h.hf, h.ht⟩) | exact along_no (fun h => by (have e := lnk_yes h.hw); simp [e] at *)
 exact ⟨w, by first | (rw [ho]; done) | rfl, sl_eq s_w (congrArg (fun o => o.2.1) ho).symm, fr_w.mono (by omega), Eh⟩

theorem spec_WaitsAlong_ok (n : NetP) (v_n_towers : Value) (v_n_links : Value) (v_l : Value) (l : List FogD) (v_way : Value) (way : List Int) (t : Int) (h : Heap) (s_n_towers : Sl h v_n_towers n.towers) (s_n_links : Sl h v_n_links n.links) (s_l : Sl h v_l l) (s_way : Sl h v_way way) : Cn f_spec_WaitsAlong [.agg #[v_n_towers, v_n_links], v_l, v_way, .int .i64 t] h fun v h' => ∃ r0 : Value, v = .tuple #[r0, .bool ((waitsOf n l way t).2)] ∧ SlO h' r0 ((waitsOf n l way t).1) ∧ Fr h.size r0 ∧ Ext h h' := by
 have l63_n_towers := s_n_towers.len63
 have l63_n_links := s_n_links.len63
 have l63_l := s_l.len63
 have l63_way := s_way.len63
 refine calls_of r_spec_WaitsAlong ?_
 refine v_seq <| v_ops ?_
 refine s_box [v_n_towers, v_n_links] rfl (fun h2 b1 hbb1 hzb1 eh2 bxb1 => ?_)
 have E3 := (Ext.refl h).trans eh2
 have z4 := eh2.size
 have lbb1 := bxb1.lt
 refine s_pq (.slice none 0 0) <| s_pq (.bool false) <| s_nil <| p_seqN <| v_seq <| v_ops <| s_load (.agg #[v_n_towers, v_n_links]) (fun _ q => bxb1.loadA rfl q) <| s_pq v_l <| s_pq v_way <| s_pq (.int .i64 t) ?_
 have f5 := (s_n_towers.ext eh2)
 have f6 := (s_n_links.ext eh2)
 have f7 := (s_l.ext eh2)
 have f8 := (s_way.ext eh2)
 refine s_call [.agg #[v_n_towers, v_n_links], v_l, v_way, .int .i64 t] rfl (spec_roAlong_ok n v_n_towers v_n_links v_l l v_way way t _ f5 f6 f7 f8) ?_
 rintro _ h10 ⟨r9, rfl, s_r9, fr_r9, eh10⟩
 have E11 := E3.trans eh10
 have z12 := eh10.size
 refine s_pq (.tuple #[.int .i64 ((alongOf n l way t).1), r9, .bool ((alongOf n l way t).2.2)]) <| s_pq (.int .i64 ((alongOf n l way t).1)) <| s_pq r9 <| s_pq (.bool ((alongOf n l way t).2.2)) <| s_pq (.int .i64 ((alongOf n l way t).1)) <| s_pq r9 <| s_pq (.bool ((alongOf n l way t).2.2)) <| s_nil <| p_seqN <| v_seq <| v_ops <| s_pq r9 <| s_pq (.bool ((alongOf n l way t).2.2)) <| s_pq r9 <| s_pq (.bool ((alongOf n l way t).2.2)) <| s_nil <| p_seqN <| v_ret <| p_ret [r9, .bool ((alongOf n l way t).2.2)] (.tuple #[r9, .bool ((alongOf n l way t).2.2)]) (fun _ q => q) rfl ?_
 have ho : (waitsOf n l way t) = ((alongOf n l way t).2.1, (alongOf n l way t).2.2) := by rfl
 exact ⟨r9, by first | (rw [ho]; done) | rfl, sl_eq s_r9 (congrArg (fun o => o.1) ho).symm, fr_r9.mono (by omega), E11⟩

end Go.Proofs.Ytgbaonaopkdlpaa



/- Ways through a net. Condition: none. Printed in part by a program. -/
namespace Go.Proofs.Ytgbaonaopkdlpaa
open Go.Vc
set_option linter.all false

theorem WayAsk.elem {n : NetP} {l : List FogD} {a b t : Int} (h : WayAsk n l a b t) {i : Nat} {x : Int} (hx : (arrOf n l a t)[i]? = some x) : -1 ≤ x ∧ x ≤ 10960 := by
 have e := gI_get hx
 have := h.le (i : Int)
 omega
theorem arr_good {n : NetP} {l : List FogD} {a b t i : Int} {R : List Int} (hw : WayAsk n l a b t) (h : WV n l a (arrOf n l a t) b i R) (hne : i ≠ a) : ∃ p, Good n l (arrOf n l a t) i p := ⟨_, hw.arr.prev hw.hn h.tow.1 h.tow.2 h.pos hne⟩
theorem arr_top {n : NetP} {l : List FogD} {a b t : Int} (hw : WayAsk n l a b t) : ∀ v ∈ arrOf n l a t, v ≤ 20000 := by
 intro v hv
 obtain ⟨i, hi, rfl⟩ := List.getElem_of_mem hv
 have := hw.elem (List.getElem?_eq_getElem hi)
 omega

set_option maxRecDepth 10000 in
set_option maxHeartbeats 4000000 in
theorem impl_WayThrough_ok (n : NetP) (v_n_towers : Value) (v_n_links : Value) (v_l : Value) (l : List FogD) (a : Int) (b : Int) (t : Int) (h : Heap) (s_n_towers : Sl h v_n_towers n.towers) (s_n_links : Sl h v_n_links n.links) (s_l : Sl h v_l l) : Cn f_impl_WayThrough [.agg #[v_n_towers, v_n_links], v_l, .int .i64 a, .int .i64 b, .int .i64 t] h fun v h' => ∃ r0 : Value, v = .tuple #[r0, .bool ((wayOf n l a b t).2)] ∧ SlO h' r0 ((wayOf n l a b t).1) ∧ Fr h.size r0 ∧ Ext h h' := by
 have l63_n_towers := s_n_towers.len63
 have l63_n_links := s_n_links.len63
 have l63_l := s_l.len63
 refine calls_of r_impl_WayThrough ?_
 refine v_seq <| v_ops ?_
 refine s_box [v_n_towers, v_n_links] rfl (fun h2 b1 hbb1 hzb1 eh2 bxb1 => ?_)
 have E3 := (Ext.refl h).trans eh2
 have z4 := eh2.size
 have lbb1 := bxb1.lt
 refine s_pq (.slice none 0 0) <| s_pq (.bool false) <| s_nil <| p_seqN <| v_seq <| v_seq <| v_ops <| s_load (.agg #[v_n_towers, v_n_links]) (fun _ q => bxb1.loadA rfl q) <| s_pq v_l <| s_pq (.int .i64 a) <| s_pq (.int .i64 b) <| s_pq (.int .i64 t) ?_
 have f5 := (s_n_towers.ext eh2)
 have f6 := (s_n_links.ext eh2)
 have f7 := (s_l.ext eh2)
 refine s_call [.agg #[v_n_towers, v_n_links], v_l, .int .i64 a, .int .i64 b, .int .i64 t] rfl (impl_wayAsked_ok n v_n_towers v_n_links v_l l a b t _ f5 f6 f7) ?_
 rintro _ h8 ⟨rfl, eh8⟩
 have E9 := E3.trans eh8
 have z10 := eh8.size
 refine s_pq (.bool (!(decide (WayAsk n l a b t)))) <| s_nil <| p_seqN ?_
 refine v_cond rfl (fun c11 => ?_) (fun c11 => ?_)
 ·
  refine v_seq <| v_ops <| s_pq (.slice none 0 0) <| s_pq (.bool false) <| s_nil <| p_seqN <| v_ret <| p_seqR <| p_ret [.slice none 0 0, .bool false] (.tuple #[.slice none 0 0, .bool false]) (fun _ q => q) rfl ?_
  have ho : (wayOf n l a b t) = ([], false) := by first | exact wayOf_no (by assumption) | exact wayOf_neg (by assumption : (arrOf n l a t)[b.toNat]? = some _) (by assumption) | exact wayOf_yes hw (by assumption : (arrOf n l a t)[b.toNat]? = some _) (by assumption) (hv.ends (by omega))
  exact ⟨(.slice none 0 0), by first | (rw [ho]; done) | rfl, sl_eq (SlX.nil (α := Int) true _) (congrArg (fun o => o.1) ho).symm, Fr.nil _, E9⟩
 have c11 := Classical.not_not.1 c11
 refine v_skip <| p_seqN <| v_seq <| v_ops ?_
 have f12 := (bxb1.ext eh8)
 refine s_load (.agg #[v_n_towers, v_n_links]) (fun _ q => f12.loadA rfl q) <| s_pq v_l <| s_pq (.int .i64 a) <| s_pq (.int .i64 t) ?_
 have f13 := (f5.ext eh8)
 have f14 := (f6.ext eh8)
 have f15 := (f7.ext eh8)
 refine s_call [.agg #[v_n_towers, v_n_links], v_l, .int .i64 a, .int .i64 t] rfl (impl_arrivals_ok n v_n_towers v_n_links v_l l a t _ f13 f14 f15 _ (by assumption : WayAsk n l a b t).hn (by assumption : WayAsk n l a b t).hf (by assumption : WayAsk n l a b t).ha (by assumption : WayAsk n l a b t).ht) ?_
 rintro r16 h17 ⟨_, rfl, s_r16, fr_r16, eh17⟩
 have E18 := E9.trans eh17
 have z19 := eh17.size
 have lt_r16 := s_r16.lt
 refine s_pq r16 <| s_nil <| p_seqN <| v_seq <| v_seq <| v_ops <| s_pq r16 <| s_pq (.int .i64 b) ?_
 have hk20 : (b).toNat < (arrOf n l a t).length := (by (have h1 := (by assumption : WayAsk n l a b t).hb); rw [arrOf_len]; omega)
 obtain ⟨x21, hx21⟩ : ∃ x, (arrOf n l a t)[(b).toNat]? = some x := ⟨_, List.getElem?_eq_getElem hk20⟩
 refine s_pure (.pointer (some ⟨sblk r16, soff r16 + ((b).toNat) * 1, none⟩)) (fun _ q => s_r16.idx (k := (b).toNat) (by have := (by assumption : WayAsk n l a b t).hb; omega) hk20 q) <| s_load (.int .i64 x21) (fun _ q => s_r16.load1 hx21 rfl q) <| s_pq (.bool (decide (x21 < 0))) <| s_nil <| p_seqN ?_
 refine v_cond rfl (fun c22 => ?_) (fun c22 => ?_)
 ·
  refine v_seq <| v_ops <| s_pq (.slice none 0 0) <| s_pq (.bool false) <| s_nil <| p_seqN <| v_ret <| p_seqR <| p_ret [.slice none 0 0, .bool false] (.tuple #[.slice none 0 0, .bool false]) (fun _ q => q) rfl ?_
  have ho : (wayOf n l a b t) = ([], false) := by first | exact wayOf_no (by assumption) | exact wayOf_neg (by assumption : (arrOf n l a t)[b.toNat]? = some _) (by assumption) | exact wayOf_yes hw (by assumption : (arrOf n l a t)[b.toNat]? = some _) (by assumption) (hv.ends (by omega))
  exact ⟨(.slice none 0 0), by first | (rw [ho]; done) | rfl, sl_eq (SlX.nil (α := Int) true _) (congrArg (fun o => o.1) ho).symm, Fr.nil _, E18⟩
 refine v_skip <| p_seqN <| v_seq <| v_ops <| s_pq (.int .i64 b) ?_
 refine s_row (α := Int) [b] (fun _ q => seg_i rfl (seg_nil q)) rfl (by simp [maxLen]) (fun r23 h24 eh24 zh24 s_r23 fr_r23 => ?_)
 have E25 := E18.trans eh24
 have z26 := eh24.size
 refine s_pq r23 <| s_nil <| p_seqN <| v_seq <| v_seq <| v_ops <| s_pq (.int .i64 b) <| s_pq (.int .i64 b) <| s_nil <| p_seqN <| v_block ?_
 have hw : WayAsk n l a b t := by assumption
 have hbp := gI_at (by assumption : (arrOf n l a t)[b.toNat]? = some _)
 have hbl := hw.le b
 have nk28 : b1 ∉ blks r16 := (fun hc => by have := fr_r16 _ hc; omega)
 have f29 := ((f12.ext eh17).ext eh24)
 have f30 := (s_r16.ext eh24)
 refine v_loop3 (α := Int) (β := List Int) (γ := Value) (fun i o w => [(1, v_l), (2, .int .i64 a), (5, .pointer (some ⟨b1, 0, none⟩)), (12, r16), (13, w), (14, .int .i64 i)]) (fun i o w hh => Ext h hh ∧ Bx hh b1 [v_n_towers, v_n_links] 26 ∧ SlO hh r16 (arrOf n l a t) ∧ SlO hh w o ∧ Fr h.size w ∧ b1 ∉ blks w ∧ (∀ b ∈ blks r16, b ∉ blks w) ∧ WV n l a (arrOf n l a t) b i o.reverse) (fun i o w => (gI (arrOf n l a t) i).toNat) b [b] r23 ⟨rfl, rfl, rfl, rfl, rfl, rfl⟩ ⟨E25, f29, f30, (sl_eq s_r23 (by simp)), (fr_r23.mono (by omega)), (fun hc => by have := fr_r23 _ hc; omega), (fun b hb hc => by have := lt_r16 b hb; have := fr_r23 b hc; omega), (by first | (simpa using WV.start hw (by omega)) | exact WV.start hw (by omega))⟩ ?_
 rintro i o w R31 h27 ⟨Eh, bxb1, s_r16, s_w, fr_w, np_b1_w, np_r16_w, hv⟩
 have zEh := Eh.size
 have f33 := s_n_towers.ext Eh
 have lbb1 := bxb1.lt
 have ltk_r16 := s_r16.lt
 have htw := hv.tow
 have hln := hv.len
 simp only [List.length_reverse] at hln
 refine v_seq <| v_seq <| v_ops <| s_pq (.int .i64 i) <| s_pq (.int .i64 a) <| s_pq (.bool (i != a)) <| s_nil <| p_seqN ?_
 refine v_cond rfl (fun c36 => ?_) (fun c36 => ?_)
 ·
  refine v_skip <| p_seqN <| v_block <| v_seq <| v_seq <| v_ops <| s_pq (.pointer (some ⟨b1, 0, none⟩)) <| s_load v_n_towers (fun _ q => bxb1.load rfl q) <| s_pure (.int .i64 (n.towers.length : Int)) (fun _ q => f33.lenVC q) <| s_pq (.int .i64 0) <| s_nil <| p_seqN <| v_block <| v_loop1 (α := Nat) (fun k => [(1, v_l), (2, .int .i64 a), (5, .pointer (some ⟨b1, 0, none⟩)), (12, r16), (13, w), (14, .int .i64 i), (42, .int .i64 (n.towers.length : Int)), (43, .int .i64 (k : Int))]) (fun k hh => Ext h hh ∧ Bx hh b1 [v_n_towers, v_n_links] 26 ∧ SlO hh r16 (arrOf n l a t) ∧ SlO hh w o ∧ k ≤ n.towers.length ∧ NoGood n l (arrOf n l a t) i k) (fun k => n.towers.length - k) 0 ⟨rfl, rfl, rfl, rfl, rfl, rfl, rfl, rfl⟩ ⟨Eh, bxb1, s_r16, s_w, (by exact ⟨by omega, fun q h0 hq => by omega⟩)⟩ ?_
  rintro k R38 h37 ⟨Eh, bxb1, s_r16, s_w, ⟨hk, hng⟩⟩
  have zEh := Eh.size
  have f40 := s_n_towers.ext Eh
  have f41 := s_n_links.ext Eh
  have f42 := s_l.ext Eh
  have lbb1 := bxb1.lt
  have ltk_r16 := s_r16.lt
  have ltk_w := s_w.lt
  refine v_seq <| v_ops <| s_pq (.bool (decide ((k : Int) < (n.towers.length : Int)))) <| s_nil <| p_seqN <| v_seq ?_
  refine v_cond rfl (fun c43 => ?_) (fun c43 => ?_)
  ·
   refine v_skip <| p_seqN <| v_seq <| v_block <| v_seq <| v_ops <| s_pq (.int .i64 (k : Int)) <| s_pq (.int .i64 (k : Int)) <| s_nil <| p_seqN <| v_seq <| v_ops <| s_load (.agg #[v_n_towers, v_n_links]) (fun _ q => bxb1.loadA rfl q) <| s_pq (.int .i64 (k : Int)) <| s_pq (.int .i64 i) <| s_call [.agg #[v_n_towers, v_n_links], .int .i64 (k : Int), .int .i64 i] rfl (impl_linkIndex_ok n v_n_towers v_n_links (k : Int) i _ f40 f41 hw.hn) ?_
   rintro _ h44 ⟨rfl, eh44⟩
   have E45 := Eh.trans eh44
   have z46 := eh44.size
   refine s_pq (.int .i64 (lkI n (k : Int) i)) <| s_nil <| p_seqN <| v_seq ?_
   have f47 := (s_r16.ext eh44)
   refine v_draw (DrawVC.hold (blks r16) ?_)
   refine d_pq (.int .i64 (lkI n (k : Int) i)) <| d_pq (.bool (decide ((lkI n (k : Int) i) ≥ 0))) <| d_pq (.bool (decide ((lkI n (k : Int) i) ≥ 0))) ?_
   refine d_splitT rfl (fun c48 => ?_) (fun c48 => ?_)
   ·
    refine d_runT rfl <| d_pq r16 <| d_runT rfl <| d_pq (.int .i64 (k : Int)) <| d_runT rfl ?_
    have hk49 : k < (arrOf n l a t).length := (by first | (rw [arrOf_len]; omega) | omega)
    obtain ⟨x50, hx50⟩ : ∃ x, (arrOf n l a t)[k]? = some x := ⟨_, List.getElem?_eq_getElem hk49⟩
    refine d_pureT (.pointer (some ⟨sblk r16, soff r16 + k * 1, none⟩)) (fun _ q => f47.idx (k := k) rfl hk49 q) <| d_runO rfl <| d_loadO (.int .i64 x50) (fun _ q => f47.load1 hx50 rfl q) <| d_runT rfl <| d_pq (.bool (decide (x50 ≥ 0))) <| d_pq (.bool (decide (x50 ≥ 0))) <| d_pq (.bool (decide (x50 ≥ 0))) ?_
    refine d_splitT rfl (fun c51 => ?_) (fun c51 => ?_)
    ·
     refine d_runT rfl <| d_pq v_l <| d_runT rfl <| d_pq (.int .i64 (lkI n (k : Int) i)) <| d_runT rfl <| d_pq r16 <| d_runT rfl <| d_pq (.int .i64 (k : Int)) <| d_runT rfl <| d_pureT (.pointer (some ⟨sblk r16, soff r16 + k * 1, none⟩)) (fun _ q => f47.idx (k := k) rfl hk49 q) <| d_runT rfl <| d_pq r16 <| d_runT rfl <| d_pq (.int .i64 i) <| d_runT rfl ?_
     have hk52 : (i).toNat < (arrOf n l a t).length := (by rw [arrOf_len]; omega)
     obtain ⟨x53, hx53⟩ : ∃ x, (arrOf n l a t)[(i).toNat]? = some x := ⟨_, List.getElem?_eq_getElem hk52⟩
     refine d_pureT (.pointer (some ⟨sblk r16, soff r16 + ((i).toNat) * 1, none⟩)) (fun _ q => f47.idx (k := (i).toNat) (by omega) hk52 q) <| d_runO rfl ?_
     have f54 := (bxb1.ext eh44)
     refine d_loadO (.agg #[v_n_towers, v_n_links]) (fun _ q => f54.loadA rfl q) <| d_runO rfl <| d_loadO (.int .i64 x50) (fun _ q => f47.load1 hx50 rfl q) <| d_runT rfl <| d_loadT (.int .i64 x53) (fun _ q => f47.take1 (fun b hb => by first | exact hb | simp [hb]) hx53 rfl q) <| d_runO rfl <| d_eff ?_
     have f55 := (f40.ext eh44)
     have f56 := (f41.ext eh44)
     have f57 := (f42.ext eh44)
     refine s_call [.agg #[v_n_towers, v_n_links], v_l, .int .i64 (lkI n (k : Int) i), .int .i64 x50] rfl (impl_goOver_ok n v_n_towers v_n_links v_l l (lkI n (k : Int) i) x50 _ f55 f56 f57 _ hw.hn hw.hf ⟨by omega, (lkI_bd hw.hn _ _).2⟩ (by have := hw.elem (by assumption : (arrOf n l a t)[k]? = some _); omega)) ?_
     rintro _ h58 ⟨rfl, eh58⟩
     have E59 := E45.trans eh58
     have z60 := eh58.size
     have G61 := eh58
     refine s_nil ⟨fun _ x hx => G61.blk x (by have := ltk_r16 x hx; omega), ?_⟩
     refine d_runT rfl <| d_pq (.bool ((over l (lkI n (k : Int) i) (lk n (lkI n (k : Int) i)) x50) == x53)) <| d_pq (.bool ((over l (lkI n (k : Int) i) (lk n (lkI n (k : Int) i)) x50) == x53)) <| d_done <| p_seqN ?_
     refine v_cond rfl (fun c62 => ?_) (fun c62 => ?_)
     ·
      refine v_seq <| v_ops <| s_pq (.int .i64 (k : Int)) <| s_pq (.int .i64 (k : Int)) <| s_nil <| p_seqN <| v_exit <| p_blkY rfl <| p_seqX <| p_lpX <| p_blkX <| p_seqN <| v_ops <| s_pq w <| s_pq (.int .i64 (k : Int)) ?_
      refine s_row (α := Int) [(k : Int)] (fun _ q => seg_i rfl (seg_nil q)) rfl (by simp [maxLen]) (fun r63 h64 eh64 zh64 s_r63 fr_r63 => ?_)
      have E65 := E59.trans eh64
      have z66 := eh64.size
      have f67 := (((s_w.ext eh44).ext eh58).ext eh64)
      refine s_app f67 s_r63 rfl rfl rfl (by simp [maxLen]; omega) (by simp; omega) (fun r68 h69 mh69 zh69 s_r68 ab_r68 => ?_)
      have E70 := E65.mod mh69 (fun b hb => by have := fr_w b hb; omega)
      have fr_r68 := fr_w.app ab_r68 (by omega)
      have np71 : b1 ∉ blks r68 := fun hc => (ab_r68 _ hc).elim np_b1_w (fun hc => by omega)
      have np73 : ∀ b ∈ blks r16, b ∉ blks r68 := fun b hb hc => (ab_r68 _ hc).elim ((np_r16_w : ∀ b ∈ blks r16, b ∉ blks w) b hb) (fun hc => by have := ltk_r16 b hb; omega)
      refine s_pq r68 <| s_nil <| p_blkN ?_
      have f75 := (((f54.ext eh58).ext eh64).mod mh69 np_b1_w)
      have f76 := (((f47.ext eh58).ext eh64).mod mh69 np_r16_w)
      exact p_lpN ⟨(k : Int), (o ++ [(k : Int)]), r68, ⟨rfl, rfl, rfl, rfl, rfl, rfl⟩, ⟨E70, f75, f76, (sl_eq s_r68 (by simp)), (fr_r68.mono (by omega)), np71, np73, (by first | exact noGood_all hw hv (by assumption) hng (by omega) | ((have hp := prevOf_good (by omega) (good_at hw.hn (by assumption : (arrOf n l a t)[k]? = some _) (by assumption : (arrOf n l a t)[i.toNat]? = some _) (by assumption) (by assumption) (by assumption)) hng); rw [List.reverse_append]; exact (hv.step hw (by assumption) hp).1))⟩, by first | exact noGood_all hw hv (by assumption) hng (by omega) | ((have hp := prevOf_good (by omega) (good_at hw.hn (by assumption : (arrOf n l a t)[k]? = some _) (by assumption : (arrOf n l a t)[i.toNat]? = some _) (by assumption) (by assumption) (by assumption)) hng); exact (hv.step hw (by assumption) hp).2)⟩
     refine v_skip <| p_blkN <| p_seqN <| v_ops <| s_pure (.int .i64 ((k : Int) + 1)) (fun _ q => ArithVC.mk (by omega) q) <| s_pq (.int .i64 ((k : Int) + 1)) <| s_nil ?_
     have f77 := (f54.ext eh58)
     have f78 := (f47.ext eh58)
     have f79 := ((s_w.ext eh44).ext eh58)
     exact p_lpN ⟨k + 1, ⟨rfl, rfl, rfl, rfl, rfl, rfl, rfl, rfl⟩, ⟨E59, f77, f78, f79, (by first | exact ⟨by omega, noGood1 hw.hn hng (by assumption)⟩ | exact ⟨by omega, noGood2 hw.hn hng (by assumption : (arrOf n l a t)[k]? = some _) (by assumption)⟩ | exact ⟨by omega, noGood3 hw.hn hng (by assumption : (arrOf n l a t)[k]? = some _) (by assumption : (arrOf n l a t)[i.toNat]? = some _) (by assumption)⟩)⟩, by omega⟩
    refine d_passT rfl <| d_passT rfl <| d_passT rfl <| d_passT rfl <| d_passT rfl <| d_passT rfl <| d_passT rfl <| d_passT rfl <| d_passO rfl <| d_passO rfl <| d_passT rfl <| d_passO rfl <| d_passT rfl <| d_pq (.bool false) <| d_done <| p_seqN <| v_condN rfl (by simp) <| v_skip <| p_blkN <| p_seqN <| v_ops <| s_pure (.int .i64 ((k : Int) + 1)) (fun _ q => ArithVC.mk (by omega) q) <| s_pq (.int .i64 ((k : Int) + 1)) <| s_nil ?_
    have f80 := (bxb1.ext eh44)
    have f81 := (s_w.ext eh44)
    exact p_lpN ⟨k + 1, ⟨rfl, rfl, rfl, rfl, rfl, rfl, rfl, rfl⟩, ⟨E45, f80, f47, f81, (by first | exact ⟨by omega, noGood1 hw.hn hng (by assumption)⟩ | exact ⟨by omega, noGood2 hw.hn hng (by assumption : (arrOf n l a t)[k]? = some _) (by assumption)⟩ | exact ⟨by omega, noGood3 hw.hn hng (by assumption : (arrOf n l a t)[k]? = some _) (by assumption : (arrOf n l a t)[i.toNat]? = some _) (by assumption)⟩)⟩, by omega⟩
   refine d_passT rfl <| d_passT rfl <| d_passT rfl <| d_passO rfl <| d_passT rfl <| d_pq (.bool false) <| d_pq (.bool false) <| d_splitN rfl (by simp) <| d_passT rfl <| d_passT rfl <| d_passT rfl <| d_passT rfl <| d_passT rfl <| d_passT rfl <| d_passT rfl <| d_passT rfl <| d_passO rfl <| d_passO rfl <| d_passT rfl <| d_passO rfl <| d_passT rfl <| d_pq (.bool false) <| d_done <| p_seqN <| v_condN rfl (by simp) <| v_skip <| p_blkN <| p_seqN <| v_ops <| s_pure (.int .i64 ((k : Int) + 1)) (fun _ q => ArithVC.mk (by omega) q) ?_
   refine s_pq (.int .i64 ((k : Int) + 1)) <| s_nil ?_
   have f82 := (bxb1.ext eh44)
   have f83 := (s_w.ext eh44)
   exact p_lpN ⟨k + 1, ⟨rfl, rfl, rfl, rfl, rfl, rfl, rfl, rfl⟩, ⟨E45, f82, f47, f83, (by first | exact ⟨by omega, noGood1 hw.hn hng (by assumption)⟩ | exact ⟨by omega, noGood2 hw.hn hng (by assumption : (arrOf n l a t)[k]? = some _) (by assumption)⟩ | exact ⟨by omega, noGood3 hw.hn hng (by assumption : (arrOf n l a t)[k]? = some _) (by assumption : (arrOf n l a t)[i.toNat]? = some _) (by assumption)⟩)⟩, by omega⟩
  refine v_exit <| p_seqX <| p_lpX <| p_blkX <| p_seqN <| v_ops <| s_pq w <| s_pq (.int .i64 i) ?_
  refine s_row (α := Int) [i] (fun _ q => seg_i rfl (seg_nil q)) rfl (by simp [maxLen]) (fun r84 h85 eh85 zh85 s_r84 fr_r84 => ?_)
  have E86 := Eh.trans eh85
  have z87 := eh85.size
  have f88 := (s_w.ext eh85)
  refine s_app f88 s_r84 rfl rfl rfl (by simp [maxLen]; omega) (by simp; omega) (fun r89 h90 mh90 zh90 s_r89 ab_r89 => ?_)
  have E91 := E86.mod mh90 (fun b hb => by have := fr_w b hb; omega)
  have fr_r89 := fr_w.app ab_r89 (by omega)
  have np92 : b1 ∉ blks r89 := fun hc => (ab_r89 _ hc).elim np_b1_w (fun hc => by omega)
  have np94 : ∀ b ∈ blks r16, b ∉ blks r89 := fun b hb hc => (ab_r89 _ hc).elim ((np_r16_w : ∀ b ∈ blks r16, b ∉ blks w) b hb) (fun hc => by have := ltk_r16 b hb; omega)
  refine s_pq r89 <| s_nil <| p_blkN ?_
  have f96 := ((bxb1.ext eh85).mod mh90 np_b1_w)
  have f97 := ((s_r16.ext eh85).mod mh90 np_r16_w)
  exact p_lpN ⟨i, (o ++ [i]), r89, ⟨rfl, rfl, rfl, rfl, rfl, rfl⟩, ⟨E91, f96, f97, (sl_eq s_r89 (by simp)), (fr_r89.mono (by omega)), np92, np94, (by first | exact noGood_all hw hv (by assumption) hng (by omega) | ((have hp := prevOf_good (by omega) (good_at hw.hn (by assumption : (arrOf n l a t)[k]? = some _) (by assumption : (arrOf n l a t)[i.toNat]? = some _) (by assumption) (by assumption) (by assumption)) hng); rw [List.reverse_append]; exact (hv.step hw (by assumption) hp).1))⟩, by first | exact noGood_all hw hv (by assumption) hng (by omega) | ((have hp := prevOf_good (by omega) (good_at hw.hn (by assumption : (arrOf n l a t)[k]? = some _) (by assumption : (arrOf n l a t)[i.toNat]? = some _) (by assumption) (by assumption) (by assumption)) hng); exact (hv.step hw (by assumption) hp).2)⟩
 have c36 := Classical.not_not.1 c36
 refine v_exit <| p_seqX <| p_lpX <| p_blkX <| p_seqN <| v_seq <| v_ops <| s_pq w <| s_call [w] rfl (slices_Reverse_Lint_int_ok w o _ s_w (by omega)) ?_
 rintro _ h98 ⟨rfl, s99, mh98, zh98⟩
 have E100 := Eh.mod mh98 (fun b hb => by have := fr_w b hb; omega)
 refine s_nil <| p_seqN <| v_seq <| v_ops <| s_pq w <| s_pq w <| s_pq (.bool true) <| s_nil <| p_seqN <| v_ret <| p_ret [w, .bool true] (.tuple #[w, .bool true]) (fun _ q => q) rfl ?_
 have ho : (wayOf n l a b t) = (o.reverse, true) := by first | exact wayOf_no (by assumption) | exact wayOf_neg (by assumption : (arrOf n l a t)[b.toNat]? = some _) (by assumption) | exact wayOf_yes hw (by assumption : (arrOf n l a t)[b.toNat]? = some _) (by assumption) (hv.ends (by omega))
 exact ⟨w, by first | (rw [ho]; done) | rfl, sl_eq s99 (congrArg (fun o => o.1) ho).symm, fr_w.mono (by omega), E100⟩

set_option maxRecDepth 10000 in
set_option maxHeartbeats 4000000 in
theorem spec_roBefore_ok (n : NetP) (v_n_towers : Value) (v_n_links : Value) (v_l : Value) (l : List FogD) (v_first : Value) (first : List Int) (b : Int) (h : Heap) (s_n_towers : Sl h v_n_towers n.towers) (s_n_links : Sl h v_n_links n.links) (s_l : Sl h v_l l) (s_first : Sl h v_first first) (m : Nat) (hn : NetOk n) (hf : FogsOk m l) (hl : first.length = n.towers.length) (hb : 0 ≤ b ∧ b ≤ (n.towers.length : Int) - 1) (hv : ∀ v ∈ first, v ≤ 20000) (hex : ∃ p, Good n l first b p) : Cn f_spec_roBefore [.agg #[v_n_towers, v_n_links], v_l, v_first, .int .i64 b] h fun v h' => v = .int .i64 (prevOf n l first b) ∧ Ext h h' := by
 have lt_n_towers := s_n_towers.lt
 have l63_n_towers := s_n_towers.len63
 have lt_n_links := s_n_links.lt
 have l63_n_links := s_n_links.len63
 have lt_l := s_l.lt
 have l63_l := s_l.len63
 have lt_first := s_first.lt
 have l63_first := s_first.len63
 refine calls_of r_spec_roBefore ?_
 refine v_seq <| v_ops ?_
 refine s_box [v_n_towers, v_n_links] rfl (fun h2 b1 hbb1 hzb1 eh2 bxb1 => ?_)
 have E3 := (Ext.refl h).trans eh2
 have z4 := eh2.size
 have lbb1 := bxb1.lt
 refine s_pq (.int .i64 0) <| s_nil <| p_seqN <| v_seq <| v_ops <| s_pq (.int .i64 (-1)) <| s_nil <| p_seqN <| v_seq <| v_seq <| v_ops <| s_pq (.pointer (some ⟨b1, 1, none⟩)) <| s_load v_n_links (fun _ q => bxb1.load rfl q) <| s_pure (.int .i64 (n.links.length : Int)) (fun _ q => s_n_links.lenVC q) <| s_pq (.int .i64 0) <| s_nil <| p_seqN <| v_block <| v_loop2 (α := Nat) (β := Int) (fun k c => [(1, v_l), (2, v_first), (3, .int .i64 b), (4, .pointer (some ⟨b1, 0, none⟩)), (9, .int .i64 c), (14, v_n_links), (15, .int .i64 (n.links.length : Int)), (16, .int .i64 (k : Int))]) (fun k c hh => Ext h hh ∧ Bx hh b1 [v_n_towers, v_n_links] 26 ∧ k ≤ n.links.length ∧ Bst n l first b k c) (fun k c => n.links.length - k) 0 (-1) ⟨rfl, rfl, rfl, rfl, rfl, rfl, rfl, rfl⟩ ⟨E3, bxb1, (by exact ⟨by omega, Bst.start n l first b⟩)⟩ ?_
 rintro k c R6 h5 ⟨Eh, bxb1, ⟨hk, hB⟩⟩
 have zEh := Eh.size
 have f8 := s_n_towers.ext Eh
 have f9 := s_n_links.ext Eh
 have f10 := s_l.ext Eh
 have f11 := s_first.ext Eh
 have lbb1 := bxb1.lt
 refine v_seq <| v_ops <| s_pq (.bool (decide ((k : Int) < (n.links.length : Int)))) <| s_nil <| p_seqN <| v_seq ?_
 refine v_cond rfl (fun c12 => ?_) (fun c12 => ?_)
 ·
  refine v_skip <| p_seqN <| v_seq <| v_block <| v_seq <| v_ops <| s_pq (.int .i64 (k : Int)) ?_
  have hk13 : k < n.links.length := (by first | omega | (simp; omega))
  obtain ⟨x14, hx14⟩ : ∃ x, n.links[k]? = some x := ⟨_, List.getElem?_eq_getElem hk13⟩
  refine s_pure (.pointer (some ⟨sblk v_n_links, soff v_n_links + k * 3, none⟩)) (fun _ q => f9.idx (k := k) rfl hk13 q) <| s_load (.agg #[.int .i64 x14.a, .int .i64 x14.b, .int .i64 x14.delay]) (fun _ q => f9.loadN hx14 rfl q) ?_
  refine s_new (fun h16 b15 hbb15 hzb15 eh16 bxb15 => ?_)
  have E17 := Eh.trans eh16
  have z18 := eh16.size
  have lbb15 := bxb15.lt
  refine s_pq (.int .i64 (k : Int)) ?_
  refine s_stBx (.agg #[.int .i64 x14.a, .int .i64 x14.b, .int .i64 x14.delay]) [.int .i64 x14.a, .int .i64 x14.b, .int .i64 x14.delay] [.int .i64 x14.a, .int .i64 x14.b, .int .i64 x14.delay] bxb15 rfl rfl rfl rfl (by simp) (all_cons rfl (all_cons rfl (all_cons rfl all_nil))) rfl (fun h19 mh19 sh19 bxx20 => ?_)
  have E21 := E17.mod mh19 (fun b hb => by simp at hb; omega)
  refine s_nil <| p_seqN <| v_seq <| v_ops <| s_load (.agg #[.int .i64 x14.a, .int .i64 x14.b, .int .i64 x14.delay]) (fun _ q => bxx20.loadA rfl q) <| s_pq (.int .i64 b) <| s_call [.agg #[.int .i64 x14.a, .int .i64 x14.b, .int .i64 x14.delay], .int .i64 b] rfl (spec_roOther_ok x14 b _ ) ?_
  rintro _ h22 ⟨rfl, eh22⟩
  have E23 := E21.trans eh22
  have z24 := eh22.size
  refine s_pq (.int .i64 (othr x14 b)) <| s_nil <| p_seqN <| v_seq ?_
  have f25 := (((f11.ext eh16).mod mh19 (fun b hb hc => by simp at hc; have := lt_first b hb; omega)).ext eh22)
  refine v_draw (DrawVC.hold (blks v_first) ?_)
  refine d_pq (.int .i64 (othr x14 b)) <| d_pq (.bool (decide ((othr x14 b) ≥ 0))) <| d_pq (.bool (decide ((othr x14 b) ≥ 0))) ?_
  refine d_splitT rfl (fun c26 => ?_) (fun c26 => ?_)
  ·
   refine d_runT rfl <| d_pq v_first <| d_runT rfl <| d_pq (.int .i64 (othr x14 b)) <| d_runT rfl ?_
   have hk27 : ((othr x14 b)).toNat < first.length := (by have := othr_bd (hn.at hx14) b; omega)
   obtain ⟨x28, hx28⟩ : ∃ x, first[((othr x14 b)).toNat]? = some x := ⟨_, List.getElem?_eq_getElem hk27⟩
   refine d_pureT (.pointer (some ⟨sblk v_first, soff v_first + (((othr x14 b)).toNat) * 1, none⟩)) (fun _ q => f25.idx (k := ((othr x14 b)).toNat) (by omega) hk27 q) <| d_runO rfl <| d_loadO (.int .i64 x28) (fun _ q => f25.load1 hx28 rfl q) <| d_runT rfl <| d_pq (.bool (decide (x28 ≥ 0))) <| d_pq (.bool (decide (x28 ≥ 0))) <| d_pq (.bool (decide (x28 ≥ 0))) ?_
   refine d_splitT rfl (fun c29 => ?_) (fun c29 => ?_)
   ·
    refine d_runT rfl <| d_pq v_l <| d_runT rfl <| d_pq (.int .i64 (k : Int)) <| d_runT rfl <| d_pq v_first <| d_runT rfl <| d_pq (.int .i64 (othr x14 b)) <| d_runT rfl <| d_pureT (.pointer (some ⟨sblk v_first, soff v_first + (((othr x14 b)).toNat) * 1, none⟩)) (fun _ q => f25.idx (k := ((othr x14 b)).toNat) (by omega) hk27 q) <| d_runT rfl <| d_pq v_first <| d_runT rfl <| d_pq (.int .i64 b) <| d_runT rfl ?_
    have hk30 : (b).toNat < first.length := (by first | omega | (simp; omega))
    obtain ⟨x31, hx31⟩ : ∃ x, first[(b).toNat]? = some x := ⟨_, List.getElem?_eq_getElem hk30⟩
    refine d_pureT (.pointer (some ⟨sblk v_first, soff v_first + ((b).toNat) * 1, none⟩)) (fun _ q => f25.idx (k := (b).toNat) (by omega) hk30 q) <| d_runO rfl ?_
    have f32 := (((bxb1.ext eh16).mod mh19 (by simp; omega)).ext eh22)
    refine d_loadO (.agg #[v_n_towers, v_n_links]) (fun _ q => f32.loadA rfl q) <| d_runO rfl <| d_loadO (.int .i64 x28) (fun _ q => f25.load1 hx28 rfl q) <| d_runT rfl <| d_loadT (.int .i64 x31) (fun _ q => f25.take1 (fun b hb => by first | exact hb | simp [hb]) hx31 rfl q) <| d_runO rfl <| d_eff ?_
    have f33 := (((f8.ext eh16).mod mh19 (fun b hb hc => by simp at hc; have := lt_n_towers b hb; omega)).ext eh22)
    have f34 := (((f9.ext eh16).mod mh19 (fun b hb hc => by simp at hc; have := lt_n_links b hb; omega)).ext eh22)
    have f35 := (((f10.ext eh16).mod mh19 (fun b hb hc => by simp at hc; have := lt_l b hb; omega)).ext eh22)
    refine s_call [.agg #[v_n_towers, v_n_links], v_l, .int .i64 (k : Int), .int .i64 x28] rfl (spec_roOver_ok n v_n_towers v_n_links v_l l (k : Int) x28 _ f33 f34 f35 _ hn hf (by omega) (by have := hv _ (List.mem_of_getElem? (by assumption : first[(othr _ b).toNat]? = some _)); omega)) ?_
    rintro _ h36 ⟨rfl, eh36⟩
    have E37 := E23.trans eh36
    have z38 := eh36.size
    have G39 := eh36
    refine s_nil ⟨fun _ x hx => G39.blk x (by have := lt_first x hx; omega), ?_⟩
    refine d_runT rfl <| d_pq (.bool ((over l (k : Int) (lk n (k : Int)) x28) == x31)) <| d_pq (.bool ((over l (k : Int) (lk n (k : Int)) x28) == x31)) <| d_pq (.bool ((over l (k : Int) (lk n (k : Int)) x28) == x31)) ?_
    refine d_splitT rfl (fun c40 => ?_) (fun c40 => ?_)
    ·
     refine d_runT rfl <| d_pq (.int .i64 c) <| d_runT rfl <| d_pq (.bool (decide (c < 0))) <| d_runT rfl <| d_pq (.bool (decide (c < 0))) ?_
     refine d_splitT rfl (fun c41 => ?_) (fun c41 => ?_)
     ·
      refine d_passT rfl <| d_passT rfl <| d_passT rfl <| d_runT rfl <| d_pq (.bool true) <| d_pq (.bool true) <| d_done <| p_seqN <| v_condY rfl rfl <| v_ops <| s_pq (.int .i64 (othr x14 b)) <| s_pq (.int .i64 (othr x14 b)) <| s_nil <| p_blkN <| p_seqN <| v_ops <| s_pure (.int .i64 ((k : Int) + 1)) (fun _ q => ArithVC.mk (by omega) q) <| s_pq (.int .i64 ((k : Int) + 1)) <| s_nil ?_
      have f42 := (f32.ext eh36)
      exact p_lpN ⟨k + 1, (othr x14 b), ⟨rfl, rfl, rfl, rfl, rfl, rfl, rfl, rfl⟩, ⟨E37, f42, (by first | exact ⟨by omega, hB.keep1 hx14 (by assumption)⟩ | exact ⟨by omega, hB.keep2 hx14 (by assumption : first[(othr x14 b).toNat]? = some _) (by assumption)⟩ | exact ⟨by omega, hB.keep3 hx14 (by assumption : first[(othr x14 b).toNat]? = some _) (by assumption : first[b.toNat]? = some _) (by assumption)⟩ | exact ⟨by omega, hB.take hn hx14 (by assumption) (by assumption : first[(othr x14 b).toNat]? = some _) (by assumption) (by assumption : first[b.toNat]? = some _) (by assumption) (by omega)⟩ | exact ⟨by omega, hB.keep4 hx14 (by omega) (by omega)⟩)⟩, by omega⟩
     refine d_runT rfl <| d_pq (.int .i64 (othr x14 b)) <| d_runT rfl <| d_pq (.int .i64 c) <| d_runT rfl <| d_pq (.bool (decide ((othr x14 b) < c))) <| d_runT rfl <| d_pq (.bool (decide ((othr x14 b) < c))) <| d_pq (.bool (decide ((othr x14 b) < c))) <| d_done <| p_seqN ?_
     refine v_cond rfl (fun c43 => ?_) (fun c43 => ?_)
     ·
      refine v_ops <| s_pq (.int .i64 (othr x14 b)) <| s_pq (.int .i64 (othr x14 b)) <| s_nil <| p_blkN <| p_seqN <| v_ops <| s_pure (.int .i64 ((k : Int) + 1)) (fun _ q => ArithVC.mk (by omega) q) <| s_pq (.int .i64 ((k : Int) + 1)) <| s_nil ?_
      have f44 := (f32.ext eh36)
      exact p_lpN ⟨k + 1, (othr x14 b), ⟨rfl, rfl, rfl, rfl, rfl, rfl, rfl, rfl⟩, ⟨E37, f44, (by first | exact ⟨by omega, hB.keep1 hx14 (by assumption)⟩ | exact ⟨by omega, hB.keep2 hx14 (by assumption : first[(othr x14 b).toNat]? = some _) (by assumption)⟩ | exact ⟨by omega, hB.keep3 hx14 (by assumption : first[(othr x14 b).toNat]? = some _) (by assumption : first[b.toNat]? = some _) (by assumption)⟩ | exact ⟨by omega, hB.take hn hx14 (by assumption) (by assumption : first[(othr x14 b).toNat]? = some _) (by assumption) (by assumption : first[b.toNat]? = some _) (by assumption) (by omega)⟩ | exact ⟨by omega, hB.keep4 hx14 (by omega) (by omega)⟩)⟩, by omega⟩
     refine v_skip <| p_blkN <| p_seqN <| v_ops <| s_pure (.int .i64 ((k : Int) + 1)) (fun _ q => ArithVC.mk (by omega) q) <| s_pq (.int .i64 ((k : Int) + 1)) <| s_nil ?_
     have f45 := (f32.ext eh36)
     exact p_lpN ⟨k + 1, c, ⟨rfl, rfl, rfl, rfl, rfl, rfl, rfl, rfl⟩, ⟨E37, f45, (by first | exact ⟨by omega, hB.keep1 hx14 (by assumption)⟩ | exact ⟨by omega, hB.keep2 hx14 (by assumption : first[(othr x14 b).toNat]? = some _) (by assumption)⟩ | exact ⟨by omega, hB.keep3 hx14 (by assumption : first[(othr x14 b).toNat]? = some _) (by assumption : first[b.toNat]? = some _) (by assumption)⟩ | exact ⟨by omega, hB.take hn hx14 (by assumption) (by assumption : first[(othr x14 b).toNat]? = some _) (by assumption) (by assumption : first[b.toNat]? = some _) (by assumption) (by omega)⟩ | exact ⟨by omega, hB.keep4 hx14 (by omega) (by omega)⟩)⟩, by omega⟩
    refine d_passT rfl <| d_passT rfl <| d_passT rfl <| d_splitU rfl <| d_passTU rfl <| d_passTU rfl <| d_passTU rfl <| d_passT rfl <| d_pq (.bool false) <| d_done <| p_seqN <| v_condN rfl (by simp) <| v_skip <| p_blkN <| p_seqN <| v_ops <| s_pure (.int .i64 ((k : Int) + 1)) (fun _ q => ArithVC.mk (by omega) q) <| s_pq (.int .i64 ((k : Int) + 1)) <| s_nil ?_
    have f46 := (f32.ext eh36)
    exact p_lpN ⟨k + 1, c, ⟨rfl, rfl, rfl, rfl, rfl, rfl, rfl, rfl⟩, ⟨E37, f46, (by first | exact ⟨by omega, hB.keep1 hx14 (by assumption)⟩ | exact ⟨by omega, hB.keep2 hx14 (by assumption : first[(othr x14 b).toNat]? = some _) (by assumption)⟩ | exact ⟨by omega, hB.keep3 hx14 (by assumption : first[(othr x14 b).toNat]? = some _) (by assumption : first[b.toNat]? = some _) (by assumption)⟩ | exact ⟨by omega, hB.take hn hx14 (by assumption) (by assumption : first[(othr x14 b).toNat]? = some _) (by assumption) (by assumption : first[b.toNat]? = some _) (by assumption) (by omega)⟩ | exact ⟨by omega, hB.keep4 hx14 (by omega) (by omega)⟩)⟩, by omega⟩
   refine d_passT rfl <| d_passT rfl <| d_passT rfl <| d_passT rfl <| d_passT rfl <| d_passT rfl <| d_passT rfl <| d_passT rfl <| d_passO rfl <| d_passO rfl <| d_passT rfl <| d_passO rfl <| d_passT rfl <| d_pq (.bool false) <| d_pq (.bool false) <| d_splitN rfl (by simp) <| d_passT rfl <| d_passT rfl <| d_passT rfl <| d_splitU rfl <| d_passTU rfl <| d_passTU rfl <| d_passTU rfl <| d_passT rfl <| d_pq (.bool false) <| d_done <| p_seqN <| v_condN rfl (by simp) <| v_skip <| p_blkN <| p_seqN <| v_ops ?_
   refine s_pure (.int .i64 ((k : Int) + 1)) (fun _ q => ArithVC.mk (by omega) q) <| s_pq (.int .i64 ((k : Int) + 1)) <| s_nil ?_
   have f47 := (((bxb1.ext eh16).mod mh19 (by simp; omega)).ext eh22)
   exact p_lpN ⟨k + 1, c, ⟨rfl, rfl, rfl, rfl, rfl, rfl, rfl, rfl⟩, ⟨E23, f47, (by first | exact ⟨by omega, hB.keep1 hx14 (by assumption)⟩ | exact ⟨by omega, hB.keep2 hx14 (by assumption : first[(othr x14 b).toNat]? = some _) (by assumption)⟩ | exact ⟨by omega, hB.keep3 hx14 (by assumption : first[(othr x14 b).toNat]? = some _) (by assumption : first[b.toNat]? = some _) (by assumption)⟩ | exact ⟨by omega, hB.take hn hx14 (by assumption) (by assumption : first[(othr x14 b).toNat]? = some _) (by assumption) (by assumption : first[b.toNat]? = some _) (by assumption) (by omega)⟩ | exact ⟨by omega, hB.keep4 hx14 (by omega) (by omega)⟩)⟩, by omega⟩
  refine d_passT rfl <| d_passT rfl <| d_passT rfl <| d_passO rfl <| d_passT rfl <| d_pq (.bool false) <| d_pq (.bool false) <| d_splitN rfl (by simp) <| d_passT rfl <| d_passT rfl <| d_passT rfl <| d_passT rfl <| d_passT rfl <| d_passT rfl <| d_passT rfl <| d_passT rfl <| d_passO rfl <| d_passO rfl <| d_passT rfl <| d_passO rfl <| d_passT rfl <| d_pq (.bool false) <| d_pq (.bool false) <| d_splitN rfl (by simp) <| d_passT rfl <| d_passT rfl <| d_passT rfl <| d_splitU rfl <| d_passTU rfl <| d_passTU rfl ?_
  refine d_passTU rfl <| d_passT rfl <| d_pq (.bool false) <| d_done <| p_seqN <| v_condN rfl (by simp) <| v_skip <| p_blkN <| p_seqN <| v_ops <| s_pure (.int .i64 ((k : Int) + 1)) (fun _ q => ArithVC.mk (by omega) q) <| s_pq (.int .i64 ((k : Int) + 1)) <| s_nil ?_
  have f48 := (((bxb1.ext eh16).mod mh19 (by simp; omega)).ext eh22)
  exact p_lpN ⟨k + 1, c, ⟨rfl, rfl, rfl, rfl, rfl, rfl, rfl, rfl⟩, ⟨E23, f48, (by first | exact ⟨by omega, hB.keep1 hx14 (by assumption)⟩ | exact ⟨by omega, hB.keep2 hx14 (by assumption : first[(othr x14 b).toNat]? = some _) (by assumption)⟩ | exact ⟨by omega, hB.keep3 hx14 (by assumption : first[(othr x14 b).toNat]? = some _) (by assumption : first[b.toNat]? = some _) (by assumption)⟩ | exact ⟨by omega, hB.take hn hx14 (by assumption) (by assumption : first[(othr x14 b).toNat]? = some _) (by assumption) (by assumption : first[b.toNat]? = some _) (by assumption) (by omega)⟩ | exact ⟨by omega, hB.keep4 hx14 (by omega) (by omega)⟩)⟩, by omega⟩
 refine v_exit <| p_seqX <| p_lpX <| p_blkX <| p_seqN <| v_seq <| v_ops <| s_pq (.int .i64 c) <| s_pq (.int .i64 c) <| s_nil <| p_seqN <| v_ret <| p_ret [.int .i64 c] (.int .i64 c) (fun _ q => q) rfl ?_
 have ho : (prevOf n l first b) = c := by exact hB.ends hn (by omega) hex
 exact ⟨by first | (rw [ho]; done) | rfl, Eh⟩

set_option maxRecDepth 10000 in
set_option maxHeartbeats 4000000 in
theorem spec_WayThrough_ok (n : NetP) (v_n_towers : Value) (v_n_links : Value) (v_l : Value) (l : List FogD) (a : Int) (b : Int) (t : Int) (h : Heap) (s_n_towers : Sl h v_n_towers n.towers) (s_n_links : Sl h v_n_links n.links) (s_l : Sl h v_l l) : Cn f_spec_WayThrough [.agg #[v_n_towers, v_n_links], v_l, .int .i64 a, .int .i64 b, .int .i64 t] h fun v h' => ∃ r0 : Value, v = .tuple #[r0, .bool ((wayOf n l a b t).2)] ∧ SlO h' r0 ((wayOf n l a b t).1) ∧ Fr h.size r0 ∧ Ext h h' := by
 have l63_n_towers := s_n_towers.len63
 have l63_n_links := s_n_links.len63
 have l63_l := s_l.len63
 refine calls_of r_spec_WayThrough ?_
 refine v_seq <| v_ops ?_
 refine s_box [v_n_towers, v_n_links] rfl (fun h2 b1 hbb1 hzb1 eh2 bxb1 => ?_)
 have E3 := (Ext.refl h).trans eh2
 have z4 := eh2.size
 have lbb1 := bxb1.lt
 refine s_pq (.slice none 0 0) <| s_pq (.bool false) <| s_nil <| p_seqN <| v_seq <| v_seq <| v_ops <| s_load (.agg #[v_n_towers, v_n_links]) (fun _ q => bxb1.loadA rfl q) <| s_pq v_l <| s_pq (.int .i64 a) <| s_pq (.int .i64 b) <| s_pq (.int .i64 t) ?_
 have f5 := (s_n_towers.ext eh2)
 have f6 := (s_n_links.ext eh2)
 have f7 := (s_l.ext eh2)
 refine s_call [.agg #[v_n_towers, v_n_links], v_l, .int .i64 a, .int .i64 b, .int .i64 t] rfl (spec_roAsked_ok n v_n_towers v_n_links v_l l a b t _ f5 f6 f7) ?_
 rintro _ h8 ⟨rfl, eh8⟩
 have E9 := E3.trans eh8
 have z10 := eh8.size
 refine s_pq (.bool (!(decide (WayAsk n l a b t)))) <| s_nil <| p_seqN ?_
 refine v_cond rfl (fun c11 => ?_) (fun c11 => ?_)
 ·
  refine v_seq <| v_ops <| s_pq (.slice none 0 0) <| s_pq (.bool false) <| s_nil <| p_seqN <| v_ret <| p_seqR <| p_ret [.slice none 0 0, .bool false] (.tuple #[.slice none 0 0, .bool false]) (fun _ q => q) rfl ?_
  have ho : (wayOf n l a b t) = ([], false) := by first | exact wayOf_no (by assumption) | exact wayOf_neg (by assumption : (arrOf n l a t)[b.toNat]? = some _) (by assumption) | exact wayOf_yes hw (by assumption : (arrOf n l a t)[b.toNat]? = some _) (by assumption) (hv.ends (by omega))
  exact ⟨(.slice none 0 0), by first | (rw [ho]; done) | rfl, sl_eq (SlX.nil (α := Int) true _) (congrArg (fun o => o.1) ho).symm, Fr.nil _, E9⟩
 have c11 := Classical.not_not.1 c11
 refine v_skip <| p_seqN <| v_seq <| v_ops ?_
 have f12 := (bxb1.ext eh8)
 refine s_load (.agg #[v_n_towers, v_n_links]) (fun _ q => f12.loadA rfl q) <| s_pq v_l <| s_pq (.int .i64 a) <| s_pq (.int .i64 t) ?_
 have f13 := (f5.ext eh8)
 have f14 := (f6.ext eh8)
 have f15 := (f7.ext eh8)
 refine s_call [.agg #[v_n_towers, v_n_links], v_l, .int .i64 a, .int .i64 t] rfl (spec_roFirst_ok n v_n_towers v_n_links v_l l a t _ f13 f14 f15 _ (by assumption : WayAsk n l a b t).hn (by assumption : WayAsk n l a b t).hf (by assumption : WayAsk n l a b t).ha (by assumption : WayAsk n l a b t).ht) ?_
 rintro r16 h17 ⟨_, rfl, s_r16, fr_r16, eh17⟩
 have E18 := E9.trans eh17
 have z19 := eh17.size
 have lt_r16 := s_r16.lt
 refine s_pq r16 <| s_nil <| p_seqN <| v_seq <| v_seq <| v_ops <| s_pq r16 <| s_pq (.int .i64 b) ?_
 have hk20 : (b).toNat < (arrOf n l a t).length := (by (have h1 := (by assumption : WayAsk n l a b t).hb); rw [arrOf_len]; omega)
 obtain ⟨x21, hx21⟩ : ∃ x, (arrOf n l a t)[(b).toNat]? = some x := ⟨_, List.getElem?_eq_getElem hk20⟩
 refine s_pure (.pointer (some ⟨sblk r16, soff r16 + ((b).toNat) * 1, none⟩)) (fun _ q => s_r16.idx (k := (b).toNat) (by have := (by assumption : WayAsk n l a b t).hb; omega) hk20 q) <| s_load (.int .i64 x21) (fun _ q => s_r16.load1 hx21 rfl q) <| s_pq (.bool (decide (x21 < 0))) <| s_nil <| p_seqN ?_
 refine v_cond rfl (fun c22 => ?_) (fun c22 => ?_)
 ·
  refine v_seq <| v_ops <| s_pq (.slice none 0 0) <| s_pq (.bool false) <| s_nil <| p_seqN <| v_ret <| p_seqR <| p_ret [.slice none 0 0, .bool false] (.tuple #[.slice none 0 0, .bool false]) (fun _ q => q) rfl ?_
  have ho : (wayOf n l a b t) = ([], false) := by first | exact wayOf_no (by assumption) | exact wayOf_neg (by assumption : (arrOf n l a t)[b.toNat]? = some _) (by assumption) | exact wayOf_yes hw (by assumption : (arrOf n l a t)[b.toNat]? = some _) (by assumption) (hv.ends (by omega))
  exact ⟨(.slice none 0 0), by first | (rw [ho]; done) | rfl, sl_eq (SlX.nil (α := Int) true _) (congrArg (fun o => o.1) ho).symm, Fr.nil _, E18⟩
 refine v_skip <| p_seqN <| v_seq <| v_ops <| s_pq (.int .i64 b) ?_
 refine s_row (α := Int) [b] (fun _ q => seg_i rfl (seg_nil q)) rfl (by simp [maxLen]) (fun r23 h24 eh24 zh24 s_r23 fr_r23 => ?_)
 have E25 := E18.trans eh24
 have z26 := eh24.size
 refine s_pq r23 <| s_nil <| p_seqN <| v_seq <| v_block ?_
 have hw : WayAsk n l a b t := by assumption
 have hbp := gI_at (by assumption : (arrOf n l a t)[b.toNat]? = some _)
 have hbl := hw.le b
 have nk28 : b1 ∉ blks r16 := (fun hc => by have := fr_r16 _ hc; omega)
 have f29 := ((f12.ext eh17).ext eh24)
 have f30 := (s_r16.ext eh24)
 refine v_loop3 (α := Int) (β := List Int) (γ := Value) (fun i o w => [(1, v_l), (2, .int .i64 a), (3, .int .i64 i), (5, .pointer (some ⟨b1, 0, none⟩)), (12, r16), (13, w)]) (fun i o w hh => Ext h hh ∧ Bx hh b1 [v_n_towers, v_n_links] 26 ∧ SlO hh r16 (arrOf n l a t) ∧ SlO hh w o ∧ Fr h.size w ∧ b1 ∉ blks w ∧ (∀ b ∈ blks r16, b ∉ blks w) ∧ WV n l a (arrOf n l a t) b i o) (fun i o w => (gI (arrOf n l a t) i).toNat) b [b] r23 ⟨rfl, rfl, rfl, rfl, rfl, rfl⟩ ⟨E25, f29, f30, (sl_eq s_r23 (by simp)), (fr_r23.mono (by omega)), (fun hc => by have := fr_r23 _ hc; omega), (fun b hb hc => by have := lt_r16 b hb; have := fr_r23 b hc; omega), (by first | (simpa using WV.start hw (by omega)) | exact WV.start hw (by omega))⟩ ?_
 rintro i o w R31 h27 ⟨Eh, bxb1, s_r16, s_w, fr_w, np_b1_w, np_r16_w, hv⟩
 have zEh := Eh.size
 have f33 := s_n_towers.ext Eh
 have f34 := s_n_links.ext Eh
 have f35 := s_l.ext Eh
 have lbb1 := bxb1.lt
 have ltk_r16 := s_r16.lt
 have htw := hv.tow
 have hln := hv.len
 refine v_seq <| v_seq <| v_ops <| s_pq (.int .i64 i) <| s_pq (.int .i64 a) <| s_pq (.bool (i != a)) <| s_nil <| p_seqN ?_
 refine v_cond rfl (fun c36 => ?_) (fun c36 => ?_)
 ·
  refine v_skip <| p_seqN <| v_block <| v_seq <| v_ops <| s_load (.agg #[v_n_towers, v_n_links]) (fun _ q => bxb1.loadA rfl q) <| s_pq v_l <| s_pq r16 <| s_pq (.int .i64 i) <| s_call [.agg #[v_n_towers, v_n_links], v_l, r16, .int .i64 i] rfl (spec_roBefore_ok n v_n_towers v_n_links v_l l r16 (arrOf n l a t) i _ f33 f34 f35 s_r16.toSl _ hw.hn hw.hf (arrOf_len n l a t) htw (arr_top hw) (arr_good hw hv (by assumption))) ?_
  rintro _ h37 ⟨rfl, eh37⟩
  have E38 := Eh.trans eh37
  have z39 := eh37.size
  refine s_pq (.int .i64 (prevOf n l (arrOf n l a t) i)) <| s_nil <| p_seqN <| v_ops <| s_pq (.int .i64 (prevOf n l (arrOf n l a t) i)) ?_
  refine s_row (α := Int) [(prevOf n l (arrOf n l a t) i)] (fun _ q => seg_i rfl (seg_nil q)) rfl (by simp [maxLen]) (fun r40 h41 eh41 zh41 s_r40 fr_r40 => ?_)
  have E42 := E38.trans eh41
  have z43 := eh41.size
  refine s_pq w ?_
  have f44 := ((s_w.ext eh37).ext eh41)
  refine s_app s_r40 f44 rfl rfl rfl (by simp [maxLen]; omega) (by simp; omega) (fun r45 h46 mh46 zh46 s_r45 ab_r45 => ?_)
  have E47 := E42.mod mh46 (fun b hb => by have := fr_r40 b hb; omega)
  have fr_r45 := fr_r40.app ab_r45 (by omega)
  refine s_pq r45 <| s_nil <| p_blkN ?_
  have f48 := (((bxb1.ext eh37).ext eh41).mod mh46 (fun hc => by have := fr_r40 _ hc; omega))
  have f49 := (((s_r16.ext eh37).ext eh41).mod mh46 (fun b hb hc => by have := ltk_r16 b hb; have := lt_r16 b hb; have := fr_r40 b hc; omega))
  exact p_lpN ⟨(prevOf n l (arrOf n l a t) i), ([(prevOf n l (arrOf n l a t) i)] ++ o), r45, ⟨rfl, rfl, rfl, rfl, rfl, rfl⟩, ⟨E47, f48, f49, (sl_eq s_r45 (by simp)), (fr_r45.mono (by omega)), (fun hc => by have := fr_r45 _ hc; omega), (fun b hb hc => by have := ltk_r16 b hb; have := lt_r16 b hb; have := fr_r45 b hc; omega), (by exact (hv.step hw (by assumption) rfl).1)⟩, by exact (hv.step hw (by assumption) rfl).2⟩
 have c36 := Classical.not_not.1 c36
 refine v_exit <| p_seqX <| p_lpX <| p_blkX <| p_seqN <| v_seq <| v_ops <| s_pq w <| s_pq w <| s_pq (.bool true) <| s_nil <| p_seqN <| v_ret <| p_ret [w, .bool true] (.tuple #[w, .bool true]) (fun _ q => q) rfl ?_
 have ho : (wayOf n l a b t) = (o, true) := by first | exact wayOf_no (by assumption) | exact wayOf_neg (by assumption : (arrOf n l a t)[b.toNat]? = some _) (by assumption) | exact wayOf_yes hw (by assumption : (arrOf n l a t)[b.toNat]? = some _) (by assumption) (hv.ends (by omega))
 exact ⟨w, by first | (rw [ho]; done) | rfl, sl_eq s_w (congrArg (fun o => o.1) ho).symm, fr_w.mono (by omega), Eh⟩

end Go.Proofs.Ytgbaonaopkdlpaa



/- Nets and ways: plain facts for the laws of ways. Condition: none. -/
namespace Go.Proofs.Ytgbaonaopkdlpaa
open Go.Vc
set_option linter.all false

theorem over_nil (k : Int) (x : LinkD) (t : Int) : over [] k x t = t + x.delay := rfl
theorem Rch.trans {n : NetP} {l : List FogD} {a t i u j v : Int} (h : Rch n l a t i u) (h' : Rch n l i u j v) : Rch n l a t j v := by
  induction h' with
  | start => exact h
  | hop _ hh ih => exact .hop ih hh
theorem Rch.bare {n : NetP} {l : List FogD} {a t b u : Int} (h : Rch n l a t b u) : ∃ u', u' ≤ u - t ∧ Rch n [] a 0 b u' := by
  induction h with
  | start => exact ⟨0, by omega, .start⟩
  | @hop i u j v hr hh ih =>
    obtain ⟨u', hu, hr'⟩ := ih
    obtain ⟨k, x, hx, hd, rfl⟩ := hh.out
    refine ⟨over [] (k : Int) x u', ?_, .hop hr' ⟨k, x, hx, hd, rfl⟩⟩
    have := stF_ge l (k : Int) x.delay u
    rw [over_nil]; unfold over; omega
theorem first_rch {n : NetP} {l : List FogD} {a b t : Int} (h : (firstOf n l a b t).2 = true) : WayAsk n l a b t ∧ 0 ≤ (firstOf n l a b t).1 ∧ Rch n l a t b (firstOf n l a b t).1 ∧ (firstOf n l a b t).1 = gI (arrOf n l a t) b := by
  by_cases c : WayAsk n l a b t ∧ 0 ≤ gI (arrOf n l a t) b
  · rw [firstOf, if_pos c]
    refine ⟨c.1, c.2, ?_, rfl⟩
    have e := arrOf_get (n := n) (l := l) (a := a) (t := t) c.1.hb.1 c.1.hb.2
    have h0 := c.2
    show Rch n l a t b (gI (arrOf n l a t) b)
    rw [e] at h0 ⊢
    rcases best_spec n l a t b with h1 | h1
    · omega
    · exact h1.2
  · rw [firstOf, if_neg c] at h; cases h
theorem first_le {n : NetP} {l : List FogD} {a b t u : Int} (hw : WayAsk n l a b t) (h : Rch n l a t b u) : (firstOf n l a b t).2 = true ∧ (firstOf n l a b t).1 ≤ u := by
 have h0 : 0 ≤ u := by have h1 := h.ge hw.hn; have h2 := hw.ht; omega
 obtain ⟨h1, h2, _⟩ := best_some h h0
 have e := arrOf_get (n := n) (l := l) (a := a) (t := t) hw.hb.1 hw.hb.2
 rw [first_yes hw (by omega)]
 exact ⟨rfl, by show gI (arrOf n l a t) b ≤ u; omega⟩
/-- along a way -/
theorem along_step {n : NetP} {l : List FogD} {way : List Int} {t : Int} {k : Nat} {y x : Int} (hy : way[k]? = some y) (hx : way[k + 1]? = some x) :
  (alTo n l ((linksOf n way).take (k + 1)) t).1 = over l (lkI n y x) (lk n (lkI n y x)) (alTo n l ((linksOf n way).take k) t).1 := by
 have hl := linksOf_at (n := n) hy hx
 rw [List.take_add_one, hl]
 simp only [Option.toList_some]
 rw [alTo_snoc]; rfl
theorem along_all {n : NetP} {l : List FogD} {way : List Int} {t : Int} {k : Nat} (hk : way.length ≤ k + 1) : (linksOf n way).take k = linksOf n way := List.take_of_length_le (by rw [linksOf, linksTo_len]; omega)
theorem along_wait {n : NetP} {l : List FogD} {way : List Int} {t : Int} {k : Nat} {y x w : Int} (hy : way[k]? = some y) (hx : way[k + 1]? = some x) (hw : (alTo n l (linksOf n way) t).2[k]? = some w) :
  0 ≤ w ∧ (alTo n l ((linksOf n way).take (k + 1)) t).1 = (alTo n l ((linksOf n way).take k) t).1 + (w + (lk n (lkI n y x)).delay) := by
 have h1 := alTo_wait (linksOf_at (n := n) hy hx) hw
 have h2 := along_step (n := n) (l := l) (t := t) hy hx
 have h3 := stF_ge l (lkI n y x) (lk n (lkI n y x)).delay (alTo n l ((linksOf n way).take k) t).1
 refine ⟨?_, h1⟩
 rw [h1] at h2
 unfold over at h2
 omega
/-- the latest start -/
theorem late_is {n : NetP} {l : List FogD} {a b t : Int} (ht : 0 ≤ t) (h1 : gI (arrOf n l a 0) b ≤ t) : IsLate n l a b t (lateOf n l a b t) := by
 have he : ∃ s, IsLate n l a b t s := by
  obtain ⟨m, hm, hmin⟩ := least_nat (p := fun m : Nat => m ≤ t.toNat ∧ gI (arrOf n l a (t - (m : Int))) b ≤ t) ⟨t.toNat, Nat.le_refl _, by rw [show t - ((t.toNat : Nat) : Int) = 0 by omega]; exact h1⟩
  refine ⟨t - (m : Int), ⟨by omega, by omega⟩, hm.2, fun q h2 h3 => Classical.byContradiction fun hc => ?_⟩
  have := hmin (t - q).toNat ⟨by omega, by rw [show t - (((t - q).toNat : Nat) : Int) = q by omega]; omega⟩
  omega
 unfold lateOf
 rw [dif_pos he]; exact Classical.choose_spec he
theorem late_facts {n : NetP} {l : List FogD} {a b t : Int} (h : (latest n l a b t).2 = true) : 0 ≤ (latest n l a b t).1 ∧ (latest n l a b t).1 ≤ t ∧ t ≤ 10000 ∧ (firstOf n l a b (latest n l a b t).1).2 = true ∧ (firstOf n l a b (latest n l a b t).1).1 ≤ t ∧
    ((latest n l a b t).1 < t → (firstOf n l a b ((latest n l a b t).1 + 1)).2 = true ∧ t < (firstOf n l a b ((latest n l a b t).1 + 1)).1) := by
  by_cases c : WayAsk n l a b t ∧ 0 ≤ gI (arrOf n l a 0) b ∧ gI (arrOf n l a 0) b ≤ t
  · rw [latest, if_pos c]
    simp only
    obtain ⟨hw, h0, h1⟩ := c
    have hl := late_is hw.ht.1 h1
    have hb := hl.bd
    have ht := hw.ht
    refine ⟨hb.1, hb.2, ht.2, ?_⟩
    have ask : ∀ s, 0 ≤ s → s ≤ t → WayAsk n l a b s := fun s h2 h3 => ⟨hw.hn, hw.ha, hw.hb, hw.hf, h2, by omega⟩
    have e1 := first_yes (ask _ hb.1 hb.2) (late_any hw (by omega) hb.1)
    rw [e1]
    refine ⟨rfl, hl.yes, fun hlt => ?_⟩
    have e2 := first_yes (ask (lateOf n l a b t + 1) (by omega) (by omega)) (late_any hw (by omega) (by omega))
    rw [e2]
    exact ⟨rfl, hl.no _ (by omega) (by omega)⟩
  · rw [latest, if_neg c] at h; cases h
theorem arr_own {n : NetP} {l : List FogD} {a t : Int} {out : List Int} (hn : NetOk n) (ha : 0 ≤ a ∧ a ≤ (n.towers.length : Int) - 1) (h : Arr n l a t out) : gI out a = t := by
 have h1 := h.tms.top
 obtain ⟨v, hv, e⟩ := gI_of (out := out) (i := a) ha.1 (by rw [h.tms.len]; omega)
 have h2 := h.tms.rch a.toNat v hv (by omega)
 have := h2.ge hn
 omega
theorem arrs_at {n : NetP} {l : List FogD} {a t : Int} {i : Nat} {x : Int} (h : (arrsFrom n l a t).2 = true) (hx : (arrsFrom n l a t).1[i]? = some x) :
    (0 ≤ x → firstOf n l a (i : Int) t = (x, true)) ∧ (x < 0 → firstOf n l a (i : Int) t = (0, false)) ∧ (0 ≤ x → t ≤ x) ∧ ((i : Int) = a → x = t) := by
  by_cases c : WayAsk n l a a t
  · rw [arrs_yes c] at hx
    have hi := (List.getElem?_eq_some_iff.1 hx).1
    simp only at hx hi
    rw [arrOf_len] at hi
    have e := gI_get hx
    have hw : WayAsk n l a (i : Int) t := ⟨c.hn, c.ha, by omega, c.hf, c.ht⟩
    refine ⟨fun h0 => ?_, fun h0 => first_neg (by omega), fun h0 => ?_, fun ea => ?_⟩
    · rw [first_yes hw (by omega), e]
    · exact (c.arr.tms.rch i x hx h0).ge c.hn
    · subst ea
      exact e.symm.trans (arr_own c.hn c.ha c.arr)
  · rw [arrs_no c] at h; cases h

/-- the way through -/
structure WayL (n : NetP) (l : List FogD) (out : List Int) (a i : Int) (W : List Int) : Prop where
  pos : 0 < W.length
  fst : W[0]? = some a
  lst : W[W.length - 1]? = some i
  all : ∀ x ∈ W, (0 ≤ x ∧ x ≤ (n.towers.length : Int) - 1) ∧ 0 ≤ gI out x ∧ gI out x ≤ gI out i
  step : ∀ (k : Nat) (x : Int), W[k]? = some x → x ∉ W.take k ∧ (0 < k → ∀ y, W[k - 1]? = some y → Good n l out x y)
  len : W.length ≤ rnk out (gI out i)
theorem wayL_ok {n : NetP} {l : List FogD} {a t : Int} {out : List Int} (hn : NetOk n) (h : Arr n l a t out) : ∀ (f : Nat) (i : Int), 0 ≤ i → i ≤ (n.towers.length : Int) - 1 → 0 ≤ gI out i → (gI out i).toNat < f → WayL n l out a i (wayL n l out a f i) := by
  have mem : ∀ i, 0 ≤ i → i ≤ (n.towers.length : Int) - 1 → gI out i ∈ out := by
    intro i h0 h1
    obtain ⟨v, hv, e⟩ := gI_of (out := out) h0 (by rw [h.tms.len]; omega)
    rw [e]; exact List.mem_of_getElem? hv
  intro f
  induction f with
  | zero => intro i h0 h1 h2 h3; omega
  | succ f ih =>
    intro i h0 h1 h2 h3
    rw [wayL]
    split
    · rename_i e
      subst e
      refine ⟨by simp, rfl, rfl, fun x hx => ?_, fun k x hx => ?_, ?_⟩
      · rw [List.mem_singleton.1 hx]; exact ⟨⟨h0, h1⟩, h2, by omega⟩
      · have hk := (List.getElem?_eq_some_iff.1 hx).1
        simp only [List.length_singleton] at hk
        have : k = 0 := by omega
        subst this
        exact ⟨by simp, fun hc => by omega⟩
      · have := rnk_lt (out := out) (v := -1) (v' := gI out i) (w := gI out i) (by omega) (by omega) h2 (mem i h0 h1)
        simp only [List.length_singleton]; omega
    · rename_i hne
      have hg := h.prev hn h0 h1 h2 hne
      have hlt := hg.lt hn
      have hp := hg.pos
      have htw := hg.tower hn
      have H := ih _ htw.1 htw.2 hp (by omega)
      generalize hW : wayL n l out a f (prevOf n l out i) = W at H ⊢
      have hpos := H.pos
      refine ⟨by simp, by rw [List.getElem?_append_left hpos]; exact H.fst, by simp, fun x hx => ?_, fun k x hx => ?_, ?_⟩
      · rcases List.mem_append.1 hx with hx | hx
        · obtain ⟨q1, q2, q3⟩ := H.all x hx
          exact ⟨q1, q2, by omega⟩
        · rw [List.mem_singleton.1 hx]; exact ⟨⟨h0, h1⟩, h2, by omega⟩
      · by_cases hk : k < W.length
        · rw [List.getElem?_append_left hk] at hx
          obtain ⟨q1, q2⟩ := H.step k x hx
          refine ⟨by rw [List.take_append_of_le_length (by omega)]; exact q1, fun hk0 y hy => q2 hk0 y ?_⟩
          rw [List.getElem?_append_left (by omega)] at hy; exact hy
        · have hk2 := (List.getElem?_eq_some_iff.1 hx).1
          simp only [List.length_append, List.length_singleton] at hk2
          have ek : k = W.length := by omega
          subst ek
          rw [List.getElem?_append_right (by omega)] at hx
          simp only [Nat.sub_self, List.getElem?_cons_zero, Option.some.injEq] at hx
          subst hx
          refine ⟨fun hx => ?_, fun hk0 y hy => ?_⟩
          · rw [List.take_append_of_le_length (by omega), List.take_of_length_le (by omega)] at hx
            have := (H.all _ hx).2.2
            omega
          · rw [List.getElem?_append_left (by omega), H.lst] at hy
            obtain rfl := Option.some.inj hy
            exact hg
      · have h4 := H.len
        have := rnk_lt (out := out) hlt (Int.le_refl _) h2 (mem i h0 h1)
        simp only [List.length_append, List.length_singleton]; omega
theorem WayL.ok {n : NetP} {l : List FogD} {a t i : Int} {out W : List Int} (hn : NetOk n) (h : Arr n l a t out) (H : WayL n l out a i W) : WayOk n W := by
 have h1 := rnk_le out (gI out i)
 have h2 := h.tms.len
 have h3 := hn.t2
 have h4 := H.len
 have h5 := H.pos
 refine ⟨by omega, fun x hx => (H.all x hx).1, fun k x hx => ?_⟩
 obtain ⟨q1, q2⟩ := H.step k x hx
 exact ⟨q1, fun hk y hy => ((good_lk hn).1 (q2 hk y hy)).1⟩
theorem WayL.time {n : NetP} {l : List FogD} {a t i : Int} {out W : List Int} (hn : NetOk n) (ha : 0 ≤ a ∧ a ≤ (n.towers.length : Int) - 1) (h : Arr n l a t out) (H : WayL n l out a i W) : ∀ (k : Nat) (x : Int), W[k]? = some x → (alTo n l ((linksOf n W).take k) t).1 = gI out x
  | 0, x, hx => by
    have e := H.fst
    rw [hx] at e
    obtain rfl := Option.some.inj e
    rw [arr_own hn ha h]; rfl
  | k + 1, x, hx => by
    have hk := (List.getElem?_eq_some_iff.1 hx).1
    have hy : W[k]? = some W[k] := List.getElem?_eq_getElem (by omega)
    have ih := H.time hn ha h k _ hy
    rw [along_step hy hx, ih]
    exact ((good_lk hn).1 ((H.step (k + 1) x hx).2 (by omega) _ hy)).2.2
theorem way_facts {n : NetP} {l : List FogD} {a b t : Int} (h : (wayOf n l a b t).2 = true) : AlongAsk n l (wayOf n l a b t).1 t ∧ (firstOf n l a b t).2 = true ∧ (alTo n l (linksOf n (wayOf n l a b t).1) t).1 = (firstOf n l a b t).1 ∧ 0 < (wayOf n l a b t).1.length ∧ (wayOf n l a b t).1[0]? = some a ∧
    (wayOf n l a b t).1[(wayOf n l a b t).1.length - 1]? = some b ∧ (firstOf n [] a b 0).2 = true ∧ 0 ≤ (firstOf n l a b t).1 - t - (firstOf n [] a b 0).1 ∧ fogDelay n l a b t = ((firstOf n l a b t).1 - t - (firstOf n [] a b 0).1, true) := by
  by_cases c : WayAsk n l a b t ∧ 0 ≤ gI (arrOf n l a t) b
  · obtain ⟨hw, h0⟩ := c
    have e : wayOf n l a b t = (wayL n l (arrOf n l a t) a 20000 b, true) := by rw [wayOf, if_pos ⟨hw, h0⟩]
    have ef := first_yes hw h0
    have hle := hw.le b
    have H := wayL_ok hw.hn hw.arr 20000 b hw.hb.1 hw.hb.2 h0 (by omega)
    have ho := H.ok hw.hn hw.arr
    have ht := H.time hw.hn hw.ha hw.arr _ _ H.lst
    rw [along_all (l := l) (t := t) (by omega)] at ht
    have hf2 : (firstOf n l a b t).2 = true := by rw [ef]
    obtain ⟨_, _, hr, _⟩ := first_rch hf2
    obtain ⟨u', hu, hr'⟩ := hr.bare
    have hp := first_le (wayAsk_plain hw) hr'
    refine ⟨by rw [e]; exact ⟨hw.hn, hw.hf, hw.ht, ho⟩, hf2, by rw [e, ef]; exact ht, by rw [e]; exact H.pos, by rw [e]; exact H.fst, by rw [e]; exact H.lst, hp.1, by have := hp.2; omega, by rw [fogDelay, if_pos hf2]⟩
  · rw [wayOf, if_neg c] at h; cases h
theorem way_flags (n : NetP) (l : List FogD) (a b t : Int) : (firstOf n l a b t).2 = (wayOf n l a b t).2 ∧ (fogDelay n l a b t).2 = (wayOf n l a b t).2 := by
  by_cases c : WayAsk n l a b t ∧ 0 ≤ gI (arrOf n l a t) b
  · rw [fogDelay, wayOf, if_pos c, firstOf, if_pos c]; exact ⟨rfl, rfl⟩
  · rw [fogDelay, wayOf, if_neg c, firstOf, if_neg c]; exact ⟨rfl, rfl⟩
end Go.Proofs.Ytgbaonaopkdlpaa



/- Where ways come together again. Condition: none. -/
namespace Go.Vc
set_option linter.all false
theorem v_seqM1 {P : Program} {a c : MCode} {Q : Post} {E : Env} {h : Heap} (slots : List (Nat × Value)) (rest : ∀ (R : Env) (h' : Heap), Ext h h' → vc P c Q (R.puts slots) h')
  (k : (∀ (E' : Env) (h' : Heap), AllEq E' slots → Ext h h' → vc P c Q E' h') → vc P (.seq a c) Q E h) : vc P (.seq a c) Q E h :=
 k fun E' h' hs e => by
  have := rest E' h' e
  rwa [puts_self E' _ hs] at this
theorem beqI (a b : Int) : (a == b) = decide (a = b) := by rw [Bool.eq_iff_iff]; simp
end Go.Vc



/- A cursor: a variable of a row of bytes, a place and a seed, that each draw changes. Condition: none. -/
namespace Go.Vc
set_option linter.all false
structure Cur (h : Heap) (p : Nat) (t : TypeId) (m : Int) (lo : Nat) : Prop where
 out : ∃ (vc : Value) (code : List By) (at_ sd : Int), Bx h p [vc, .int .i64 at_, .int .u64 sd] t ∧ Sl h vc code ∧ (∀ b ∈ blks vc, b < lo) ∧ 0 ≤ at_ ∧ at_ ≤ m ∧ ∀ y ∈ code, 0 ≤ y.n ∧ y.n ≤ 255
 low : lo ≤ p
theorem Cur.mk2 {h : Heap} {p : Nat} {t : TypeId} {m : Int} {lo : Nat} {vc : Value} {code : List By} {at_ sd : Int} (bx : Bx h p [vc, .int .i64 at_, .int .u64 sd] t) (s : Sl h vc code) (hcl : ∀ b ∈ blks vc, b < lo) (hby : ∀ y ∈ code, 0 ≤ y.n ∧ y.n ≤ 255) (hat : 0 ≤ at_ ∧ at_ ≤ m) (hlo : lo ≤ p) : Cur h p t m lo :=
 ⟨⟨vc, code, at_, sd, bx, s, hcl, hat.1, hat.2, hby⟩, hlo⟩
theorem Cur.lt {h : Heap} {p : Nat} {t : TypeId} {m : Int} {lo : Nat} (C : Cur h p t m lo) : p < h.size := by
 obtain ⟨_, _, _, _, bx, _⟩ := C.out; exact bx.lt
theorem Cur.top {h : Heap} {p : Nat} {t : TypeId} {m : Int} {lo : Nat} (C : Cur h p t m lo) : 0 ≤ m := by
 obtain ⟨_, _, _, _, _, _, _, h0, h1, _⟩ := C.out; omega
theorem Cur.le {h : Heap} {p : Nat} {t : TypeId} {m m' : Int} {lo : Nat} (C : Cur h p t m lo) (hm : m ≤ m') : Cur h p t m' lo := by
 obtain ⟨vc, code, at_, sd, bx, s, h1, h2, h3, h4⟩ := C.out
 exact ⟨⟨vc, code, at_, sd, bx, s, h1, h2, by omega, h4⟩, C.low⟩
theorem Cur.ext {h h' : Heap} {p : Nat} {t : TypeId} {m : Int} {lo : Nat} (C : Cur h p t m lo) (e : Ext h h') : Cur h' p t m lo := by
 obtain ⟨vc, code, at_, sd, bx, s, h1, h2, h3, h4⟩ := C.out
 exact ⟨⟨vc, code, at_, sd, bx.ext e, s.ext e, h1, h2, h3, h4⟩, C.low⟩
theorem Cur.mod {h h' : Heap} {p : Nat} {t : TypeId} {m : Int} {lo : Nat} (C : Cur h p t m lo) {bs : List Nat} (e : Mod bs h h') (hp : p ∉ bs) (hl : ∀ b ∈ bs, lo ≤ b) : Cur h' p t m lo := by
 obtain ⟨vc, code, at_, sd, bx, s, h1, h2, h3, h4⟩ := C.out
 exact ⟨⟨vc, code, at_, sd, bx.mod e hp, s.mod e (fun b hb hc => by have := h1 b hb; have := hl b hc; omega), h1, h2, h3, h4⟩, C.low⟩
theorem bits_255 (a : Int) : 0 ≤ bits .and .u64 a 255 ∧ bits .and .u64 a 255 ≤ 255 := by
 have h : (BitVec.ofInt 64 a &&& BitVec.ofInt 64 255).toNat ≤ 255 := by
  rw [BitVec.toNat_and]
  have e : (BitVec.ofInt 64 255).toNat = 255 := by decide
  rw [e]; exact Nat.and_le_right
 have e : bits .and .u64 a 255 = IntKind.u64.wrap ((BitVec.ofInt 64 a &&& BitVec.ofInt 64 255).toNat : Int) := rfl
 rw [e]
 generalize (BitVec.ofInt 64 a &&& BitVec.ofInt 64 255).toNat = n at h
 have : IntKind.u64.wrap (n : Int) = n := by
  simp [IntKind.wrap, IntKind.bits, IntKind.signed]
  omega
 omega
theorem bits_64 (a : Int) : -9223372036854775808 ≤ bits .and .u64 a 255 ∧ bits .and .u64 a 255 ≤ 9223372036854775807 := by
 have := bits_255 a; omega
theorem emod_in (a : Int) {n : Int} (h : 0 < n) : 0 ≤ a % n ∧ (a % n < n ∨ a % n = 0) :=
 ⟨Int.emod_nonneg a (by omega), .inl (Int.emod_lt_of_pos a h)⟩
theorem gmod1 {l : List Nat} {h h' h0 : Heap} {b : Nat} (m : Mod l h h') (hb : b < h.size) (hn : b ∉ l) (G : ∀ x ∈ [b], h[x]? = h0[x]?) : ∀ x ∈ [b], h'[x]? = h0[x]? := fun x hx => by
 obtain rfl := List.mem_singleton.1 hx
 exact (m.blk x hb hn).trans (G x hx)
theorem gext1 {h h' h0 : Heap} {b : Nat} (e : Ext h h') (hb : b < h.size) (G : ∀ x ∈ [b], h[x]? = h0[x]?) : ∀ x ∈ [b], h'[x]? = h0[x]? := fun x hx => by
 obtain rfl := List.mem_singleton.1 hx
 exact (e.blk x hb).trans (G x hx)
end Go.Vc


/- Draws from a cursor. Condition: none. Printed in part by a program. -/
namespace Go.Proofs.Ytgbaonaopkdlpaa
open Go.Vc
set_option linter.all false
set_option maxRecDepth 10000 in
set_option maxHeartbeats 4000000 in
theorem spec_l1Cur_next_ok (p_c : Nat) (t_c : TypeId) (m_c : Int) (lo_c : Nat) (h : Heap) (C_c : Cur h p_c t_c m_c lo_c) (hm : m_c + 1 ≤ 4000000000000000000) : Cn f_spec_l1Cur_next [.pointer (some ⟨p_c, 0, none⟩)] h fun v h' => ∃ g0 : Int, v = .int .i64 g0 ∧ (0 ≤ g0 ∧ g0 ≤ 255) ∧ Cur h' p_c t_c (m_c + 1) lo_c ∧ Mod [p_c] h h' := by
 obtain ⟨vc_c, code, at_c, sd_c, bx_c, s_code, hcl, hat0, hat1, hby⟩ := C_c.out
 have lc_c := C_c.lt
 have ll_c := C_c.low
 have l63_code := s_code.len63
 have apc : ∀ b ∈ blks vc_c, b ∉ [p_c] := fun b hb hc => by simp at hc; have := hcl b hb; omega
 refine calls_of r_spec_l1Cur_next ?_
 refine v_seq <| v_ops <| s_pq (.int .i64 0) <| s_nil <| p_seqN <| v_seq <| v_ops <| s_pq (.int .i64 0) <| s_nil <| p_seqN <| v_seq <| v_seq <| v_ops <| s_pq (.pointer (some ⟨p_c, 0, none⟩)) <| s_pq (.pointer (some ⟨p_c, 0, none⟩)) <| s_pq (.pointer (some ⟨p_c, 1, none⟩)) <| s_pq (.pointer (some ⟨p_c, 0, none⟩)) <| s_pq (.pointer (some ⟨p_c, 0, none⟩)) <| s_pq (.pointer (some ⟨p_c, 0, none⟩)) <| s_load (.int .i64 at_c) (fun _ q => bx_c.load rfl q) <| s_load vc_c (fun _ q => bx_c.load rfl q) <| s_pure (.int .i64 (code.length : Int)) (fun _ q => s_code.lenVC q) ?_
 refine s_pq (.bool (decide (at_c < (code.length : Int)))) <| s_nil <| p_seqN ?_
 refine v_cond rfl (fun c1 => ?_) (fun c1 => ?_)
 ·
  refine v_ops <| s_pq (.pointer (some ⟨p_c, 0, none⟩)) <| s_pq (.pointer (some ⟨p_c, 0, none⟩)) <| s_pq (.pointer (some ⟨p_c, 0, none⟩)) <| s_pq (.pointer (some ⟨p_c, 0, none⟩)) <| s_pq (.pointer (some ⟨p_c, 0, none⟩)) <| s_pq (.pointer (some ⟨p_c, 1, none⟩)) <| s_load vc_c (fun _ q => bx_c.load rfl q) <| s_load (.int .i64 at_c) (fun _ q => bx_c.load rfl q) ?_
  have hk2 : (at_c).toNat < code.length := (by first | omega | (simp; omega))
  obtain ⟨x3, hx3⟩ : ∃ x, code[(at_c).toNat]? = some x := ⟨_, List.getElem?_eq_getElem hk2⟩
  refine s_pure (.pointer (some ⟨sblk vc_c, soff vc_c + ((at_c).toNat) * 1, none⟩)) (fun _ q => s_code.idx (k := (at_c).toNat) (by omega) hk2 q) <| s_load (.int .u8 x3.n) (fun _ q => s_code.load1 hx3 rfl q) <| s_pure (.int .i64 x3.n) (fun _ q => conv_i64 (by have := hby _ (List.mem_of_getElem? (by assumption : code[at_c.toNat]? = some _)); omega) q) <| s_pq (.int .i64 x3.n) <| s_nil <| p_seqN <| v_seq <| v_ops <| s_pq (.pointer (some ⟨p_c, 0, none⟩)) <| s_pq (.pointer (some ⟨p_c, 0, none⟩)) <| s_pq (.pointer (some ⟨p_c, 1, none⟩)) ?_
  refine s_load (.int .i64 at_c) (fun _ q => bx_c.load rfl q) <| s_pure (.int .i64 (at_c + 1)) (fun _ q => ArithVC.mk (by omega) q) <| s_pq (.pointer (some ⟨p_c, 0, none⟩)) <| s_pq (.pointer (some ⟨p_c, 1, none⟩)) ?_
  refine s_stBx (.int .i64 (at_c + 1)) [.int .i64 (at_c + 1)] [vc_c, .int .i64 (at_c + 1), .int .u64 sd_c] bx_c rfl rfl rfl rfl (by simp) (all_cons rfl all_nil) rfl (fun h4 mh4 sh4 bxx5 => ?_)
  have E6 := (Mod.refl [p_c] h).new mh4 (fun b hb => .inl (by simp at hb; simp [hb]))
  refine s_nil <| p_seqN <| v_seq <| v_ops <| s_pq (.pointer (some ⟨p_c, 0, none⟩)) <| s_pq (.pointer (some ⟨p_c, 0, none⟩)) <| s_pq (.pointer (some ⟨p_c, 0, none⟩)) <| s_pq (.pointer (some ⟨p_c, 2, none⟩)) <| s_load (.int .u64 sd_c) (fun _ q => bxx5.load rfl q) <| s_pure (.int .u64 (IntKind.u64.wrap (sd_c * 6364136223846793005))) (fun _ q => ArithVC.raw q) <| s_pq (.int .i64 x3.n) <| s_pq (.int .u64 (IntKind.u64.wrap x3.n)) <| s_pure (.int .u64 (IntKind.u64.wrap ((IntKind.u64.wrap (sd_c * 6364136223846793005)) + (IntKind.u64.wrap x3.n)))) (fun _ q => ArithVC.raw q) ?_
  refine s_pure (.int .u64 (IntKind.u64.wrap ((IntKind.u64.wrap ((IntKind.u64.wrap (sd_c * 6364136223846793005)) + (IntKind.u64.wrap x3.n))) + 1442695040888963407))) (fun _ q => ArithVC.raw q) <| s_pq (.pointer (some ⟨p_c, 0, none⟩)) <| s_pq (.pointer (some ⟨p_c, 2, none⟩)) ?_
  refine s_stBx (.int .u64 (IntKind.u64.wrap ((IntKind.u64.wrap ((IntKind.u64.wrap (sd_c * 6364136223846793005)) + (IntKind.u64.wrap x3.n))) + 1442695040888963407))) [.int .u64 (IntKind.u64.wrap ((IntKind.u64.wrap ((IntKind.u64.wrap (sd_c * 6364136223846793005)) + (IntKind.u64.wrap x3.n))) + 1442695040888963407))] [vc_c, .int .i64 (at_c + 1), .int .u64 (IntKind.u64.wrap ((IntKind.u64.wrap ((IntKind.u64.wrap (sd_c * 6364136223846793005)) + (IntKind.u64.wrap x3.n))) + 1442695040888963407))] bxx5 rfl rfl rfl rfl (by simp) (all_cons rfl all_nil) rfl (fun h7 mh7 sh7 bxx8 => ?_)
  have E9 := E6.new mh7 (fun b hb => .inl (by simp at hb; simp [hb]))
  refine s_nil <| p_seqN <| v_seq <| v_seq <| v_ops <| s_pq (.pointer (some ⟨p_c, 0, none⟩)) <| s_pq (.pointer (some ⟨p_c, 0, none⟩)) <| s_pq (.pointer (some ⟨p_c, 1, none⟩)) <| s_pq (.pointer (some ⟨p_c, 0, none⟩)) <| s_pq (.pointer (some ⟨p_c, 0, none⟩)) <| s_pq (.pointer (some ⟨p_c, 0, none⟩)) <| s_load (.int .i64 (at_c + 1)) (fun _ q => bxx8.load rfl q) <| s_load vc_c (fun _ q => bxx8.load rfl q) <| s_pure (.int .i64 (code.length : Int)) (fun _ q => s_code.lenVC q) <| s_pq (.bool (decide ((at_c + 1) ≤ (code.length : Int)))) ?_
  refine s_nil <| p_seqN ?_
  refine v_cond rfl (fun c10 => ?_) (fun c10 => ?_)
  ·
   refine v_seq <| v_ops <| s_pq (.int .i64 x3.n) <| s_pq (.int .i64 x3.n) <| s_nil <| p_seqN <| v_ret <| p_seqR <| p_ret [.int .i64 x3.n] (.int .i64 x3.n) (fun _ q => q) rfl ?_
   have f11 := ((s_code.mod mh4 apc).mod mh7 apc)
   exact ⟨x3.n, rfl, (by first | (have := hby _ (List.mem_of_getElem? (by assumption : code[at_c.toNat]? = some _)); omega) | exact bits_255 _ | omega), ((Cur.mk2 bxx8 f11 hcl hby (m := m_c + 1) (by omega) ll_c).le (by omega)), E9⟩
  refine v_skip <| p_seqN <| v_seq <| v_ops <| s_pq (.pointer (some ⟨p_c, 0, none⟩)) <| s_pq (.pointer (some ⟨p_c, 0, none⟩)) <| s_pq (.pointer (some ⟨p_c, 2, none⟩)) <| s_load (.int .u64 (IntKind.u64.wrap ((IntKind.u64.wrap ((IntKind.u64.wrap (sd_c * 6364136223846793005)) + (IntKind.u64.wrap x3.n))) + 1442695040888963407))) (fun _ q => bxx8.load rfl q) <| s_pure (.int .u64 (((IntKind.u64.wrap ((IntKind.u64.wrap ((IntKind.u64.wrap (sd_c * 6364136223846793005)) + (IntKind.u64.wrap x3.n))) + 1442695040888963407))).fdiv (2 ^ (min ((40) : Int).toNat IntKind.u64.bits)))) (fun _ q => ⟨by decide, q⟩) ?_
  refine s_pure (.int .u64 (bits .and .u64 (((IntKind.u64.wrap ((IntKind.u64.wrap ((IntKind.u64.wrap (sd_c * 6364136223846793005)) + (IntKind.u64.wrap x3.n))) + 1442695040888963407))).fdiv (2 ^ (min ((40) : Int).toNat IntKind.u64.bits))) 255)) (fun _ q => BitsVC.mk q) <| s_pure (.int .i64 (bits .and .u64 (((IntKind.u64.wrap ((IntKind.u64.wrap ((IntKind.u64.wrap (sd_c * 6364136223846793005)) + (IntKind.u64.wrap x3.n))) + 1442695040888963407))).fdiv (2 ^ (min ((40) : Int).toNat IntKind.u64.bits))) 255)) (fun _ q => conv_i64 (bits_64 _) q) ?_
  refine s_pq (.int .i64 (bits .and .u64 (((IntKind.u64.wrap ((IntKind.u64.wrap ((IntKind.u64.wrap (sd_c * 6364136223846793005)) + (IntKind.u64.wrap x3.n))) + 1442695040888963407))).fdiv (2 ^ (min ((40) : Int).toNat IntKind.u64.bits))) 255)) <| s_nil <| p_seqN <| v_ret <| p_ret [.int .i64 (bits .and .u64 (((IntKind.u64.wrap ((IntKind.u64.wrap ((IntKind.u64.wrap (sd_c * 6364136223846793005)) + (IntKind.u64.wrap x3.n))) + 1442695040888963407))).fdiv (2 ^ (min ((40) : Int).toNat IntKind.u64.bits))) 255)] (.int .i64 (bits .and .u64 (((IntKind.u64.wrap ((IntKind.u64.wrap ((IntKind.u64.wrap (sd_c * 6364136223846793005)) + (IntKind.u64.wrap x3.n))) + 1442695040888963407))).fdiv (2 ^ (min ((40) : Int).toNat IntKind.u64.bits))) 255)) (fun _ q => q) rfl ?_
  have f12 := ((s_code.mod mh4 apc).mod mh7 apc)
  exact ⟨(bits .and .u64 (((IntKind.u64.wrap ((IntKind.u64.wrap ((IntKind.u64.wrap (sd_c * 6364136223846793005)) + (IntKind.u64.wrap x3.n))) + 1442695040888963407))).fdiv (2 ^ (min ((40) : Int).toNat IntKind.u64.bits))) 255), rfl, (by first | (have := hby _ (List.mem_of_getElem? (by assumption : code[at_c.toNat]? = some _)); omega) | exact bits_255 _ | omega), ((Cur.mk2 bxx8 f12 hcl hby (m := m_c + 1) (by omega) ll_c).le (by omega)), E9⟩
 refine v_skip <| p_seqN <| v_seq <| v_ops <| s_pq (.pointer (some ⟨p_c, 0, none⟩)) <| s_pq (.pointer (some ⟨p_c, 0, none⟩)) <| s_pq (.pointer (some ⟨p_c, 1, none⟩)) <| s_load (.int .i64 at_c) (fun _ q => bx_c.load rfl q) <| s_pure (.int .i64 (at_c + 1)) (fun _ q => ArithVC.mk (by omega) q) <| s_pq (.pointer (some ⟨p_c, 0, none⟩)) <| s_pq (.pointer (some ⟨p_c, 1, none⟩)) ?_
 refine s_stBx (.int .i64 (at_c + 1)) [.int .i64 (at_c + 1)] [vc_c, .int .i64 (at_c + 1), .int .u64 sd_c] bx_c rfl rfl rfl rfl (by simp) (all_cons rfl all_nil) rfl (fun h13 mh13 sh13 bxx14 => ?_)
 have E15 := (Mod.refl [p_c] h).new mh13 (fun b hb => .inl (by simp at hb; simp [hb]))
 refine s_nil <| p_seqN <| v_seq <| v_ops <| s_pq (.pointer (some ⟨p_c, 0, none⟩)) <| s_pq (.pointer (some ⟨p_c, 0, none⟩)) <| s_pq (.pointer (some ⟨p_c, 0, none⟩)) <| s_pq (.pointer (some ⟨p_c, 2, none⟩)) <| s_load (.int .u64 sd_c) (fun _ q => bxx14.load rfl q) <| s_pure (.int .u64 (IntKind.u64.wrap (sd_c * 6364136223846793005))) (fun _ q => ArithVC.raw q) <| s_pq (.int .i64 0) <| s_pq (.int .u64 (IntKind.u64.wrap 0)) <| s_pure (.int .u64 (IntKind.u64.wrap ((IntKind.u64.wrap (sd_c * 6364136223846793005)) + (IntKind.u64.wrap 0)))) (fun _ q => ArithVC.raw q) ?_
 refine s_pure (.int .u64 (IntKind.u64.wrap ((IntKind.u64.wrap ((IntKind.u64.wrap (sd_c * 6364136223846793005)) + (IntKind.u64.wrap 0))) + 1442695040888963407))) (fun _ q => ArithVC.raw q) <| s_pq (.pointer (some ⟨p_c, 0, none⟩)) <| s_pq (.pointer (some ⟨p_c, 2, none⟩)) ?_
 refine s_stBx (.int .u64 (IntKind.u64.wrap ((IntKind.u64.wrap ((IntKind.u64.wrap (sd_c * 6364136223846793005)) + (IntKind.u64.wrap 0))) + 1442695040888963407))) [.int .u64 (IntKind.u64.wrap ((IntKind.u64.wrap ((IntKind.u64.wrap (sd_c * 6364136223846793005)) + (IntKind.u64.wrap 0))) + 1442695040888963407))] [vc_c, .int .i64 (at_c + 1), .int .u64 (IntKind.u64.wrap ((IntKind.u64.wrap ((IntKind.u64.wrap (sd_c * 6364136223846793005)) + (IntKind.u64.wrap 0))) + 1442695040888963407))] bxx14 rfl rfl rfl rfl (by simp) (all_cons rfl all_nil) rfl (fun h16 mh16 sh16 bxx17 => ?_)
 have E18 := E15.new mh16 (fun b hb => .inl (by simp at hb; simp [hb]))
 refine s_nil <| p_seqN <| v_seq <| v_seq <| v_ops <| s_pq (.pointer (some ⟨p_c, 0, none⟩)) <| s_pq (.pointer (some ⟨p_c, 0, none⟩)) <| s_pq (.pointer (some ⟨p_c, 1, none⟩)) <| s_pq (.pointer (some ⟨p_c, 0, none⟩)) <| s_pq (.pointer (some ⟨p_c, 0, none⟩)) <| s_pq (.pointer (some ⟨p_c, 0, none⟩)) <| s_load (.int .i64 (at_c + 1)) (fun _ q => bxx17.load rfl q) <| s_load vc_c (fun _ q => bxx17.load rfl q) <| s_pure (.int .i64 (code.length : Int)) (fun _ q => s_code.lenVC q) <| s_pq (.bool (decide ((at_c + 1) ≤ (code.length : Int)))) ?_
 refine s_nil <| p_seqN ?_
 refine v_cond rfl (fun c19 => ?_) (fun c19 => ?_)
 ·
  refine v_seq <| v_ops <| s_pq (.int .i64 0) <| s_pq (.int .i64 0) <| s_nil <| p_seqN <| v_ret <| p_seqR <| p_ret [.int .i64 0] (.int .i64 0) (fun _ q => q) rfl ?_
  have f20 := ((s_code.mod mh13 apc).mod mh16 apc)
  exact ⟨0, rfl, (by first | (have := hby _ (List.mem_of_getElem? (by assumption : code[at_c.toNat]? = some _)); omega) | exact bits_255 _ | omega), ((Cur.mk2 bxx17 f20 hcl hby (m := m_c + 1) (by omega) ll_c).le (by omega)), E18⟩
 refine v_skip <| p_seqN <| v_seq <| v_ops <| s_pq (.pointer (some ⟨p_c, 0, none⟩)) <| s_pq (.pointer (some ⟨p_c, 0, none⟩)) <| s_pq (.pointer (some ⟨p_c, 2, none⟩)) <| s_load (.int .u64 (IntKind.u64.wrap ((IntKind.u64.wrap ((IntKind.u64.wrap (sd_c * 6364136223846793005)) + (IntKind.u64.wrap 0))) + 1442695040888963407))) (fun _ q => bxx17.load rfl q) <| s_pure (.int .u64 (((IntKind.u64.wrap ((IntKind.u64.wrap ((IntKind.u64.wrap (sd_c * 6364136223846793005)) + (IntKind.u64.wrap 0))) + 1442695040888963407))).fdiv (2 ^ (min ((40) : Int).toNat IntKind.u64.bits)))) (fun _ q => ⟨by decide, q⟩) ?_
 refine s_pure (.int .u64 (bits .and .u64 (((IntKind.u64.wrap ((IntKind.u64.wrap ((IntKind.u64.wrap (sd_c * 6364136223846793005)) + (IntKind.u64.wrap 0))) + 1442695040888963407))).fdiv (2 ^ (min ((40) : Int).toNat IntKind.u64.bits))) 255)) (fun _ q => BitsVC.mk q) <| s_pure (.int .i64 (bits .and .u64 (((IntKind.u64.wrap ((IntKind.u64.wrap ((IntKind.u64.wrap (sd_c * 6364136223846793005)) + (IntKind.u64.wrap 0))) + 1442695040888963407))).fdiv (2 ^ (min ((40) : Int).toNat IntKind.u64.bits))) 255)) (fun _ q => conv_i64 (bits_64 _) q) ?_
 refine s_pq (.int .i64 (bits .and .u64 (((IntKind.u64.wrap ((IntKind.u64.wrap ((IntKind.u64.wrap (sd_c * 6364136223846793005)) + (IntKind.u64.wrap 0))) + 1442695040888963407))).fdiv (2 ^ (min ((40) : Int).toNat IntKind.u64.bits))) 255)) <| s_nil <| p_seqN <| v_ret <| p_ret [.int .i64 (bits .and .u64 (((IntKind.u64.wrap ((IntKind.u64.wrap ((IntKind.u64.wrap (sd_c * 6364136223846793005)) + (IntKind.u64.wrap 0))) + 1442695040888963407))).fdiv (2 ^ (min ((40) : Int).toNat IntKind.u64.bits))) 255)] (.int .i64 (bits .and .u64 (((IntKind.u64.wrap ((IntKind.u64.wrap ((IntKind.u64.wrap (sd_c * 6364136223846793005)) + (IntKind.u64.wrap 0))) + 1442695040888963407))).fdiv (2 ^ (min ((40) : Int).toNat IntKind.u64.bits))) 255)) (fun _ q => q) rfl ?_
 have f21 := ((s_code.mod mh13 apc).mod mh16 apc)
 exact ⟨(bits .and .u64 (((IntKind.u64.wrap ((IntKind.u64.wrap ((IntKind.u64.wrap (sd_c * 6364136223846793005)) + (IntKind.u64.wrap 0))) + 1442695040888963407))).fdiv (2 ^ (min ((40) : Int).toNat IntKind.u64.bits))) 255), rfl, (by first | (have := hby _ (List.mem_of_getElem? (by assumption : code[at_c.toNat]? = some _)); omega) | exact bits_255 _ | omega), ((Cur.mk2 bxx17 f21 hcl hby (m := m_c + 1) (by omega) ll_c).le (by omega)), E18⟩

theorem spec_l1Cur_pick_ok (p_c : Nat) (t_c : TypeId) (m_c : Int) (lo_c : Nat) (n : Int) (h : Heap) (C_c : Cur h p_c t_c m_c lo_c) (hm : m_c + 2 ≤ 4000000000000000000) : Cn f_spec_l1Cur_pick [.pointer (some ⟨p_c, 0, none⟩), .int .i64 n] h fun v h' => ∃ g0 : Int, v = .int .i64 g0 ∧ (0 ≤ g0 ∧ (g0 < n ∨ g0 = 0)) ∧ Cur h' p_c t_c (m_c + 2) lo_c ∧ Mod [p_c] h h' := by
 have lc_c := C_c.lt
 have ll_c := C_c.low
 have lm_c := C_c.top
 refine calls_of r_spec_l1Cur_pick ?_
 refine v_seq <| v_ops <| s_pq (.int .i64 0) <| s_nil <| p_seqN <| v_seq <| v_seq <| v_ops <| s_pq (.int .i64 n) <| s_pq (.bool (decide (n ≤ 1))) <| s_nil <| p_seqN ?_
 refine v_cond rfl (fun c1 => ?_) (fun c1 => ?_)
 ·
  refine v_seq <| v_ops <| s_pq (.int .i64 0) <| s_nil <| p_seqN <| v_ret <| p_seqR <| p_ret [.int .i64 0] (.int .i64 0) (fun _ q => q) rfl ?_
  exact ⟨0, rfl, (by first | omega | exact emod_in _ (by omega)), (C_c.le (by omega)), (Mod.refl [p_c] h)⟩
 refine v_skip <| p_seqN <| v_seq <| v_ops <| s_pq (.pointer (some ⟨p_c, 0, none⟩)) <| s_call [.pointer (some ⟨p_c, 0, none⟩)] rfl (spec_l1Cur_next_ok p_c t_c m_c lo_c _ C_c (by omega)) ?_
 rintro _ h3 ⟨g2, rfl, qh3, Ch3, mh3⟩
 have zh3 := mh3.size
 have E4 := (Mod.refl [p_c] h).new mh3 (fun b hb => .inl (by simp at hb; simp [hb]))
 refine s_pq (.int .i64 g2) <| s_nil <| p_seqN <| v_seq <| v_seq <| v_ops <| s_pq (.int .i64 n) <| s_pq (.bool (decide (n > 200))) <| s_nil <| p_seqN ?_
 refine v_cond rfl (fun c5 => ?_) (fun c5 => ?_)
 ·
  refine v_ops <| s_pq (.int .i64 g2) <| s_pure (.int .i64 (g2 * 256)) (fun _ q => ArithVC.mk (by omega) q) <| s_pq (.pointer (some ⟨p_c, 0, none⟩)) <| s_call [.pointer (some ⟨p_c, 0, none⟩)] rfl (spec_l1Cur_next_ok p_c t_c (m_c + 1) lo_c _ Ch3 (by omega)) ?_
  rintro _ h7 ⟨g6, rfl, qh7, Ch7, mh7⟩
  have zh7 := mh7.size
  have E8 := E4.new mh7 (fun b hb => .inl (by simp at hb; simp [hb]))
  refine s_pure (.int .i64 ((g2 * 256) + g6)) (fun _ q => ArithVC.mk (by omega) q) <| s_pq (.int .i64 ((g2 * 256) + g6)) <| s_nil <| p_seqN <| v_seq <| v_ops <| s_pq (.int .i64 ((g2 * 256) + g6)) <| s_pq (.int .i64 n) <| s_pure (.int .i64 (((g2 * 256) + g6) % n)) (fun _ q => RemVC.mk (by omega) (by omega) q) <| s_pq (.int .i64 (((g2 * 256) + g6) % n)) <| s_nil <| p_seqN <| v_ret <| p_ret [.int .i64 (((g2 * 256) + g6) % n)] (.int .i64 (((g2 * 256) + g6) % n)) (fun _ q => q) rfl ?_
  exact ⟨(((g2 * 256) + g6) % n), rfl, (by first | omega | exact emod_in _ (by omega)), (Ch7.le (by omega)), E8⟩
 refine v_skip <| p_seqN <| v_seq <| v_ops <| s_pq (.int .i64 g2) <| s_pq (.int .i64 n) <| s_pure (.int .i64 (g2 % n)) (fun _ q => RemVC.mk (by omega) (by omega) q) <| s_pq (.int .i64 (g2 % n)) <| s_nil <| p_seqN <| v_ret <| p_ret [.int .i64 (g2 % n)] (.int .i64 (g2 % n)) (fun _ q => q) rfl ?_
 exact ⟨(g2 % n), rfl, (by first | omega | exact emod_in _ (by omega)), (Ch3.le (by omega)), E4⟩

theorem spec_l1Cur_one_ok (p_c : Nat) (t_c : TypeId) (m_c : Int) (lo_c : Nat) (n : Int) (h : Heap) (C_c : Cur h p_c t_c m_c lo_c) (hm : m_c + 2 ≤ 4000000000000000000) : Cn f_spec_l1Cur_one [.pointer (some ⟨p_c, 0, none⟩), .int .i64 n] h fun v h' => ∃ g0 : Bool, v = .bool g0 ∧ Cur h' p_c t_c (m_c + 2) lo_c ∧ Mod [p_c] h h' := by
 have lc_c := C_c.lt
 have ll_c := C_c.low
 have lm_c := C_c.top
 refine calls_of r_spec_l1Cur_one ?_
 refine v_seq <| v_ops <| s_pq (.bool false) <| s_nil <| p_seqN <| v_seq <| v_ops <| s_pq (.pointer (some ⟨p_c, 0, none⟩)) <| s_pq (.int .i64 n) <| s_call [.pointer (some ⟨p_c, 0, none⟩), .int .i64 n] rfl (spec_l1Cur_pick_ok p_c t_c m_c lo_c n _ C_c (by omega)) ?_
 rintro _ h2 ⟨g1, rfl, qh2, Ch2, mh2⟩
 have zh2 := mh2.size
 have E3 := (Mod.refl [p_c] h).new mh2 (fun b hb => .inl (by simp at hb; simp [hb]))
 refine s_pq (.bool (g1 == 0)) <| s_pq (.bool (g1 == 0)) <| s_nil <| p_seqN <| v_ret <| p_ret [.bool (g1 == 0)] (.bool (g1 == 0)) (fun _ q => q) rfl ?_
 exact ⟨(g1 == 0), rfl, (Ch2.le (by omega)), E3⟩

theorem spec_l1Cur_among_ok (p_c : Nat) (t_c : TypeId) (m_c : Int) (lo_c : Nat) (v_l : Value) (l : List Int) (h : Heap) (C_c : Cur h p_c t_c m_c lo_c) (s_l : Sl h v_l l) (ap_l : ∀ b ∈ blks v_l, b ∉ [p_c]) (hm : m_c + 2 ≤ 4000000000000000000) (hl : 0 < l.length) : Cn f_spec_l1Cur_among [.pointer (some ⟨p_c, 0, none⟩), v_l] h fun v h' => ∃ g0 : Int, v = .int .i64 g0 ∧ (g0 ∈ l) ∧ Cur h' p_c t_c (m_c + 2) lo_c ∧ Mod [p_c] h h' := by
 have lc_c := C_c.lt
 have ll_c := C_c.low
 have lm_c := C_c.top
 have l63_l := s_l.len63
 refine calls_of r_spec_l1Cur_among ?_
 refine v_seq <| v_ops <| s_pq (.int .i64 0) <| s_nil <| p_seqN <| v_seq <| v_ops <| s_pq v_l <| s_pq (.pointer (some ⟨p_c, 0, none⟩)) <| s_pq v_l <| s_pure (.int .i64 (l.length : Int)) (fun _ q => s_l.lenVC q) <| s_call [.pointer (some ⟨p_c, 0, none⟩), .int .i64 (l.length : Int)] rfl (spec_l1Cur_pick_ok p_c t_c m_c lo_c (l.length : Int) _ C_c (by omega)) ?_
 rintro _ h2 ⟨g1, rfl, qh2, Ch2, mh2⟩
 have zh2 := mh2.size
 have E3 := (Mod.refl [p_c] h).new mh2 (fun b hb => .inl (by simp at hb; simp [hb]))
 have f4 := (s_l.mod mh2 ap_l)
 have hk5 : (g1).toNat < l.length := (by first | omega | (simp; omega))
 obtain ⟨x6, hx6⟩ : ∃ x, l[(g1).toNat]? = some x := ⟨_, List.getElem?_eq_getElem hk5⟩
 refine s_pure (.pointer (some ⟨sblk v_l, soff v_l + ((g1).toNat) * 1, none⟩)) (fun _ q => f4.idx (k := (g1).toNat) (by omega) hk5 q) <| s_load (.int .i64 x6) (fun _ q => f4.load1 hx6 rfl q) <| s_pq (.int .i64 x6) <| s_nil <| p_seqN <| v_ret <| p_ret [.int .i64 x6] (.int .i64 x6) (fun _ q => q) rfl ?_
 exact ⟨x6, rfl, (by exact List.mem_of_getElem? (by assumption)), (Ch2.le (by omega)), E3⟩

end Go.Proofs.Ytgbaonaopkdlpaa

