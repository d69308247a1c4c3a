/- Ways found from their end: plain laws. Condition: none. -/
import Derived.Test.YthagdkmalchhgaaRo9
namespace Go.Proofs.Ythagdkmalchhgaa
open Go.Vc
set_option linter.all false

theorem prevOf_good {n : NetP} {l : List FogD} {first : List Int} {i k : Int} (hk : 0 ≤ k) (hg : Good n l first i k) (hnp : ∀ q, 0 ≤ q → q < k → ¬ Good n l first i q) : prevOf n l first i = k := (prevOf_eq ⟨hk, hg, hnp⟩).symm
theorem Arr.prev {n : NetP} {l : List FogD} {a t : Int} {out : List Int} (hn : NetOk n) (h : Arr n l a t out) {i : Int} (hi : 0 ≤ i) (hl : i ≤ (n.towers.length : Int) - 1) (h0 : 0 ≤ gI out i) (hne : i ≠ a) : Good n l out i (prevOf n l out i) := by
  obtain ⟨p, hp⟩ := h.good hi hl h0 hne
  have hpt := hp.tower hn
  obtain ⟨m, hm, hmin⟩ := least_nat (p := fun m : Nat => Good n l out i (m : Int)) ⟨p.toNat, by rw [show ((p.toNat : Nat) : Int) = p by omega]; exact hp⟩
  rw [prevOf_good (k := (m : Int)) (by omega) hm (fun q h0 hq hg => by
    have := hmin q.toNat (by rw [show ((q.toNat : Nat) : Int) = q by omega]; exact hg)
    omega)]
  exact hm
theorem wayL_fuel {n : NetP} {l : List FogD} {a t : Int} {out : List Int} (hn : NetOk n) (h : Arr n l a t out) : ∀ (f f' : Nat) (i : Int), 0 ≤ i → i ≤ (n.towers.length : Int) - 1 → 0 ≤ gI out i → (gI out i).toNat < f → (gI out i).toNat < f' → wayL n l out a f i = wayL n l out a f' i := by
  intro f
  induction f with
  | zero => intro f' i h0 h1 h2 h3; omega
  | succ f ih =>
    intro f' i h0 h1 h2 h3 h4
    cases f' with
    | zero => omega
    | succ f' =>
      simp only [wayL]
      split
      · rfl
      · rename_i hne
        have hg := h.prev hn h0 h1 h2 hne
        have hlt := hg.lt hn
        have hp := hg.pos
        have htw := hg.tower hn
        rw [ih f' _ htw.1 htw.2 hp (by omega) (by omega)]
structure WV (n : NetP) (l : List FogD) (a : Int) (first : List Int) (b i : Int) (R : List Int) : Prop where
  tow : 0 ≤ i ∧ i ≤ (n.towers.length : Int) - 1
  pos : 0 ≤ gI first i
  way : ∃ r, R = i :: r ∧ wayL n l first a 20000 i ++ r = wayL n l first a 20000 b
  len : R.length + (gI first i).toNat ≤ 1 + (gI first b).toNat
theorem WV.start {n : NetP} {l : List FogD} {a b t : Int} (hw : WayAsk n l a b t) (h0 : 0 ≤ gI (arrOf n l a t) b) : WV n l a (arrOf n l a t) b b [b] := ⟨hw.hb, h0, ⟨[], rfl, by simp⟩, by simp⟩
theorem WV.step {n : NetP} {l : List FogD} {a b t i k : Int} {R : List Int} (hw : WayAsk n l a b t) (h : WV n l a (arrOf n l a t) b i R) (hne : i ≠ a) (hk : prevOf n l (arrOf n l a t) i = k) : WV n l a (arrOf n l a t) b k (k :: R) ∧ (gI (arrOf n l a t) k).toNat < (gI (arrOf n l a t) i).toNat := by
  obtain ⟨r, hr, hwy⟩ := h.way
  have hg := hw.arr.prev hw.hn h.tow.1 h.tow.2 h.pos hne
  have hle := hw.le i
  rw [hk] at hg
  have hlt := hg.lt hw.hn
  have hp := hg.pos
  have htw := hg.tower hw.hn
  refine ⟨⟨htw, hp, ⟨R, rfl, ?_⟩, by have := h.len; simp only [List.length_cons]; omega⟩, by omega⟩
  rw [← hwy, hr]
  have e : wayL n l (arrOf n l a t) a 20000 i = wayL n l (arrOf n l a t) a 19999 k ++ [i] := by rw [wayL, if_neg hne, hk]
  rw [e, wayL_fuel hw.hn hw.arr 19999 20000 k htw.1 htw.2 hp (by omega) (by omega)]
  simp
theorem WV.ends {n : NetP} {l : List FogD} {a b i : Int} {first R : List Int} (h : WV n l a first b i R) (he : i = a) : R = wayL n l first a 20000 b := by
  obtain ⟨r, hr, hwy⟩ := h.way
  rw [← hwy, hr, he]
  have : wayL n l first a 20000 a = [a] := by rw [wayL, if_pos rfl]
  rw [this]; rfl
noncomputable def wayOf (n : NetP) (l : List FogD) (a b t : Int) : List Int × Bool := if WayAsk n l a b t ∧ 0 ≤ gI (arrOf n l a t) b then (wayL n l (arrOf n l a t) a 20000 b, true) else ([], false)
theorem wayOf_no {n : NetP} {l : List FogD} {a b t : Int} (h : ¬ WayAsk n l a b t) : wayOf n l a b t = ([], false) := by rw [wayOf, if_neg fun hc => h hc.1]
theorem wayOf_neg {n : NetP} {l : List FogD} {a b t x : Int} (hx : (arrOf n l a t)[b.toNat]? = some x) (h : x < 0) : wayOf n l a b t = ([], false) := by
  have e := gI_at hx
  rw [wayOf, if_neg fun hc => by omega]
theorem wayOf_yes {n : NetP} {l : List FogD} {a b t x : Int} {R : List Int} (hw : WayAsk n l a b t) (hx : (arrOf n l a t)[b.toNat]? = some x) (h : ¬ x < 0) (hR : R = wayL n l (arrOf n l a t) a 20000 b) : wayOf n l a b t = (R, true) := by
  have e := gI_at hx
  rw [wayOf, if_pos ⟨hw, by omega⟩, hR]
theorem wayOf_len (n : NetP) (l : List FogD) (a b t : Int) : (wayOf n l a b t).1.length ≤ 20001 := by
  unfold wayOf
  split
  · exact wayL_len n l _ a 20000 b
  · simp
/-- what the inner search of the first program finds -/
theorem good_at {n : NetP} (hn : NetOk n) {l : List FogD} {first : List Int} {i : Int} {k : Nat} {x y : Int} (hx : first[k]? = some x) (hy : first[i.toNat]? = some y) (h1 : lkI n (k : Int) i ≥ 0) (h2 : x ≥ 0) (h3 : over l (lkI n (k : Int) i) (lk n (lkI n (k : Int) i)) x = y) : Good n l first i (k : Int) := by
  have e1 := gI_get hx
  have e2 := gI_at hy
  exact (good_lk hn).2 ⟨h1, by omega, by rw [e1, e2]; exact h3⟩
abbrev NoGood (n : NetP) (l : List FogD) (first : List Int) (i : Int) (k : Nat) : Prop := ∀ q, 0 ≤ q → q < (k : Int) → ¬ Good n l first i q
theorem noGood_succ {n : NetP} {l : List FogD} {first : List Int} {i : Int} {k : Nat} (h : NoGood n l first i k) (hk : ¬ Good n l first i (k : Int)) : NoGood n l first i (k + 1) := by
  intro q h0 hq hg
  by_cases e : q = (k : Int)
  · subst e; exact hk hg
  · exact h q h0 (by omega) hg
theorem noGood1 {n : NetP} (hn : NetOk n) {l : List FogD} {first : List Int} {i : Int} {k : Nat} (h : NoGood n l first i k) (h1 : ¬ lkI n (k : Int) i ≥ 0) : NoGood n l first i (k + 1) := noGood_succ h fun hg => h1 ((good_lk hn).1 hg).1
theorem noGood2 {n : NetP} (hn : NetOk n) {l : List FogD} {first : List Int} {i : Int} {k : Nat} {x : Int} (h : NoGood n l first i k) (hx : first[k]? = some x) (h1 : ¬ x ≥ 0) : NoGood n l first i (k + 1) := noGood_succ h fun hg => by
  have := ((good_lk hn).1 hg).2.1
  rw [gI_get hx] at this; omega
theorem noGood3 {n : NetP} (hn : NetOk n) {l : List FogD} {first : List Int} {i : Int} {k : Nat} {x y : Int} (h : NoGood n l first i k) (hx : first[k]? = some x) (hy : first[i.toNat]? = some y) (h1 : ¬ over l (lkI n (k : Int) i) (lk n (lkI n (k : Int) i)) x = y) : NoGood n l first i (k + 1) := noGood_succ h fun hg => by
  have := ((good_lk hn).1 hg).2.2
  rw [gI_get hx, gI_at hy] at this; exact h1 this
theorem noGood_all {n : NetP} {l : List FogD} {a b t i : Int} {R : List Int} {k : Nat} {P : Prop} (hw : WayAsk n l a b t) (h : WV n l a (arrOf n l a t) b i R) (hne : i ≠ a) (hg : NoGood n l (arrOf n l a t) i k) (hk : n.towers.length ≤ k) : P := by
  obtain ⟨p, hp⟩ := hw.arr.good h.tow.1 h.tow.2 h.pos hne
  have htw := hp.tower hw.hn
  exact (hg p htw.1 (by omega) hp).elim
/-- what the search of the second program finds -/
structure Bst (n : NetP) (l : List FogD) (first : List Int) (i : Int) (m : Nat) (c : Int) : Prop where
  bd : -1 ≤ c
  good : 0 ≤ c → Good n l first i c
  least : ∀ (k : Nat) (x : LinkD) (p : Int), k < m → n.links[k]? = some x → othr x i = p → 0 ≤ p → 0 ≤ gI first p → over l (k : Int) x (gI first p) = gI first i → 0 ≤ c ∧ c ≤ p
theorem Bst.start (n : NetP) (l : List FogD) (first : List Int) (i : Int) : Bst n l first i 0 (-1) := ⟨by omega, fun h => by omega, fun k x p hk => by omega⟩
theorem Bst.keep {n : NetP} {l : List FogD} {first : List Int} {i c : Int} {m : Nat} (h : Bst n l first i m c) {x : LinkD} (hx : n.links[m]? = some x) (hn : 0 ≤ othr x i → 0 ≤ gI first (othr x i) → over l (m : Int) x (gI first (othr x i)) = gI first i → 0 ≤ c ∧ c ≤ othr x i) : Bst n l first i (m + 1) c := by
  refine ⟨h.bd, h.good, fun k y p hk hy hp h0 h1 h2 => ?_⟩
  by_cases e : k = m
  · subst e; rw [hx] at hy; obtain rfl := Option.some.inj hy; subst hp; exact hn h0 h1 h2
  · exact h.least k y p (by omega) hy hp h0 h1 h2
theorem othr_btw {n : NetP} (hn : NetOk n) {k : Nat} {x : LinkD} (hx : n.links[k]? = some x) {i p : Int} (hp : othr x i = p) (h0 : 0 ≤ p) : btw p i x = true := by
  have := hn.at hx
  unfold othr at hp
  simp only [btw, decide_eq_true_eq]
  split at hp
  · right; omega
  · split at hp
    · left; omega
    · omega
theorem btw_othr {n : NetP} (hn : NetOk n) {k : Nat} {x : LinkD} (hx : n.links[k]? = some x) {i p : Int} (h : btw p i x = true) : othr x i = p := by
  have := hn.at hx
  simp only [btw, decide_eq_true_eq] at h
  unfold othr
  split
  · omega
  · split <;> omega
theorem Bst.take {n : NetP} (hn : NetOk n) {l : List FogD} {first : List Int} {i c : Int} {m : Nat} (h : Bst n l first i m c) {x : LinkD} (hx : n.links[m]? = some x) {v w : Int} (h0 : othr x i ≥ 0) (hv : first[(othr x i).toNat]? = some v) (hv0 : v ≥ 0) (hw : first[i.toNat]? = some w) (ho : over l (m : Int) (lk n (m : Int)) v = w) (hb : c < 0 ∨ othr x i < c) : Bst n l first i (m + 1) (othr x i) := by
  have e1 := gI_at hv
  have e2 := gI_at hw
  rw [lk_get hx] at ho
  refine ⟨by omega, fun _ => ⟨by omega, m, x, hx, othr_btw hn hx rfl h0, by rw [e1, e2]; exact ho⟩, fun k y p hk hy hp g0 g1 g2 => ?_⟩
  by_cases e : k = m
  · subst e; rw [hx] at hy; obtain rfl := Option.some.inj hy; omega
  · have := h.least k y p (by omega) hy hp g0 g1 g2
    omega
theorem Bst.keep1 {n : NetP} {l : List FogD} {first : List Int} {i c : Int} {m : Nat} (h : Bst n l first i m c) {x : LinkD} (hx : n.links[m]? = some x) (h0 : ¬ othr x i ≥ 0) : Bst n l first i (m + 1) c := h.keep hx fun g => absurd g h0
theorem Bst.keep2 {n : NetP} {l : List FogD} {first : List Int} {i c : Int} {m : Nat} (h : Bst n l first i m c) {x : LinkD} (hx : n.links[m]? = some x) {v : Int} (hv : first[(othr x i).toNat]? = some v) (hv0 : ¬ v ≥ 0) : Bst n l first i (m + 1) c := h.keep hx fun _ g => by
  have e1 := gI_at hv; omega
theorem Bst.keep3 {n : NetP} {l : List FogD} {first : List Int} {i c : Int} {m : Nat} (h : Bst n l first i m c) {x : LinkD} (hx : n.links[m]? = some x) {v w : Int} (hv : first[(othr x i).toNat]? = some v) (hw : first[i.toNat]? = some w) (ho : ¬ over l (m : Int) (lk n (m : Int)) v = w) : Bst n l first i (m + 1) c := h.keep hx fun _ _ g => by
  rw [gI_at hv, gI_at hw] at g
  rw [lk_get hx] at ho; exact absurd g ho
theorem Bst.keep4 {n : NetP} {l : List FogD} {first : List Int} {i c : Int} {m : Nat} (h : Bst n l first i m c) {x : LinkD} (hx : n.links[m]? = some x) (h1 : ¬ c < 0) (h2 : ¬ othr x i < c) : Bst n l first i (m + 1) c := h.keep hx fun _ _ _ => by omega
theorem Bst.ends {n : NetP} (hn : NetOk n) {l : List FogD} {first : List Int} {i c : Int} {m : Nat} (h : Bst n l first i m c) (hm : n.links.length ≤ m) (he : ∃ p, Good n l first i p) : prevOf n l first i = c := by
  have via : ∀ p, Good n l first i p → 0 ≤ c ∧ c ≤ p := by
    intro p hp
    obtain ⟨k, x, hx, hb, ho⟩ := hp.out
    have hk := (List.getElem?_eq_some_iff.1 hx).1
    exact h.least k x p (by omega) hx (btw_othr hn hx hb) (hp.tower hn).1 hp.pos ho
  obtain ⟨p, hp⟩ := he
  have h0 := (via p hp).1
  exact prevOf_good h0 (h.good h0) fun q _ hq hg => by have := (via q hg).2; omega
/-- turning a list around -/
structure RevTo (l ll : List Int) (i : Nat) : Prop where
  len : ll.length = l.length
  get : ∀ q, q < l.length → ll[q]? = if q < i ∨ l.length - i ≤ q then l[l.length - 1 - q]? else l[q]?
theorem RevTo.start (l : List Int) : RevTo l l 0 := ⟨rfl, fun q hq => by rw [if_neg (by omega)]⟩
theorem RevTo.step {l ll : List Int} {i : Nat} (h : RevTo l ll i) {x y : Int} (hi : i < l.length - 1 - i) (hx : ll[i]? = some x) (hy : ll[l.length - 1 - i]? = some y) : RevTo l ((ll.set i y).set (l.length - 1 - i) x) (i + 1) := by
  have hl := h.len
  have gx := h.get i (by omega)
  have gy := h.get (l.length - 1 - i) (by omega)
  rw [if_neg (by omega), hx] at gx
  rw [if_neg (by omega), hy] at gy
  refine ⟨by simp [hl], fun q hq => ?_⟩
  by_cases e1 : q = l.length - 1 - i
  · subst e1
    rw [List.getElem?_set_self (by simp; omega), if_pos (by omega), gx]
    congr 1; omega
  · rw [List.getElem?_set_ne (Ne.symm e1)]
    by_cases e2 : q = i
    · subst e2
      rw [List.getElem?_set_self (by omega), if_pos (by omega), gy]
    · rw [List.getElem?_set_ne (Ne.symm e2), h.get q hq]
      by_cases e3 : q < i ∨ l.length - i ≤ q
      · rw [if_pos e3, if_pos (by omega)]
      · rw [if_neg e3, if_neg (by omega)]
theorem RevTo.ends {l ll : List Int} {i : Nat} (h : RevTo l ll i) (hi : ¬ (i : Int) < (l.length : Int) - 1 - (i : Int)) : ll = l.reverse := by
  apply List.ext_getElem?
  intro q
  by_cases hq : q < l.length
  · rw [h.get q hq, List.getElem?_reverse hq]
    split
    · rfl
    · congr 1; omega
  · rw [List.getElem?_eq_none (by rw [h.len]; omega), List.getElem?_eq_none (by simp; omega)]
theorem firstF_congr {α : Type} {p q : α → Bool} : ∀ {l : List α} {i : Nat}, (∀ x ∈ l, p x = q x) → firstF p l i = firstF q l i
  | [], i, h => rfl
  | x :: l, i, h => by
    simp only [firstF]
    rw [h x (List.mem_cons_self ..), firstF_congr (l := l) (i := i + 1) fun y hy => h y (List.mem_cons_of_mem _ hy)]
end Go.Proofs.Ythagdkmalchhgaa
