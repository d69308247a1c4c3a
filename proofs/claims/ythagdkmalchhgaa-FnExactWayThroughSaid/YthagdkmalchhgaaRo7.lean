/- Ways: plain laws. Condition: none. -/
import Derived.Test.YthagdkmalchhgaaRo6
namespace Go.Proofs.Ythagdkmalchhgaa
open Go.Vc
set_option linter.all false

/-! ### What is asked -/
structure WayAsk (n : NetP) (l : List FogD) (a b t : Int) : Prop where
  hn : NetOk n
  ha : 0 ≤ a ∧ a ≤ (n.towers.length : Int) - 1
  hb : 0 ≤ b ∧ b ≤ (n.towers.length : Int) - 1
  hf : FogsOk n.links.length l
  ht : 0 ≤ t ∧ t ≤ 10000
noncomputable instance (n : NetP) (l : List FogD) (a b t : Int) : Decidable (WayAsk n l a b t) := Classical.propDecidable _
theorem wayAsk_iff {n : NetP} {l : List FogD} {a b t : Int} : WayAsk n l a b t ↔ NetOk n ∧ (0 ≤ a ∧ a ≤ (n.towers.length : Int) - 1) ∧ (0 ≤ b ∧ b ≤ (n.towers.length : Int) - 1) ∧ FogsOk n.links.length l ∧ (0 ≤ t ∧ t ≤ 10000) :=
  ⟨fun h => ⟨h.hn, h.ha, h.hb, h.hf, h.ht⟩, fun ⟨h1, h2, h3, h4, h5⟩ => ⟨h1, h2, h3, h4, h5⟩⟩
theorem WayAsk.arr {n : NetP} {l : List FogD} {a b t : Int} (h : WayAsk n l a b t) : Arr n l a t (arrOf n l a t) := arrOf_arr h.hn h.ha h.ht.1
theorem arrOf_len (n : NetP) (l : List FogD) (a t : Int) : (arrOf n l a t).length = n.towers.length := by simp [arrOf]

/-! ### Who was before -/
theorem Arr.pred {n : NetP} {l : List FogD} {a t : Int} {out : List Int} (h : Arr n l a t out) {i : Int} (hi : 0 ≤ i) (hl : i ≤ (n.towers.length : Int) - 1) (h0 : 0 ≤ gI out i) (hne : i ≠ a) :
    ∃ (p : Int) (k : Nat) (x : LinkD), n.links[k]? = some x ∧ ((x.a = p ∧ x.b = i) ∨ (x.b = p ∧ x.a = i)) ∧ 0 ≤ gI out p ∧ over l (k : Int) x (gI out p) = gI out i := by
  obtain ⟨v, hv, hg⟩ := gI_of (out := out) hi (by rw [h.tms.len]; omega)
  rw [hg] at h0
  have hr := h.tms.rch i.toNat v hv h0
  rw [show ((i.toNat : Nat) : Int) = i by omega] at hr
  cases hr with
  | start => exact absurd rfl hne
  | @hop p u _ _ hr hh =>
    obtain ⟨k, x, hx, hd, he⟩ := hh.out
    have hk := (List.getElem?_eq_some_iff.1 hx).1
    have hlp := h.least hr
    obtain ⟨d1, d2⟩ := h.done k x hk hx
    have hm := over_mono l (k : Int) x hlp.2
    refine ⟨p, k, x, hx, hd, hlp.1, ?_⟩
    rcases hd with ⟨rfl, rfl⟩ | ⟨rfl, rfl⟩
    · have := d1 hlp.1; omega
    · have := d2 hlp.1; omega

/-! ### No time is very late -/
def rnk (out : List Int) (v : Int) : Nat := (out.map fun w => if 0 ≤ w ∧ w ≤ v then 1 else 0).sum
theorem rnk_mono (out : List Int) {v v' : Int} (h : v ≤ v') : rnk out v ≤ rnk out v' := by
  induction out with
  | nil => simp [rnk]
  | cons x l ih =>
    simp only [rnk, List.map_cons, List.sum_cons] at *
    split <;> split <;> omega
theorem rnk_lt {out : List Int} {v v' w : Int} (h : v < w) (h' : w ≤ v') (h0 : 0 ≤ w) (hm : w ∈ out) : rnk out v + 1 ≤ rnk out v' := by
  induction out with
  | nil => cases hm
  | cons x l ih =>
    have hmo := rnk_mono l (show v ≤ v' by omega)
    simp only [rnk, List.map_cons, List.sum_cons] at *
    rcases List.mem_cons.1 hm with rfl | hm
    · rw [if_neg (by omega), if_pos (by omega)]; omega
    · have := ih hm
      split <;> split <;> omega
theorem rnk_le (out : List Int) (v : Int) : rnk out v ≤ out.length := by
  induction out with
  | nil => simp [rnk]
  | cons x l ih => simp only [rnk, List.map_cons, List.sum_cons, List.length_cons] at *; split <;> omega
theorem Arr.bound {n : NetP} {l : List FogD} {a t : Int} {out : List Int} {m : Nat} (hf : FogsOk m l) (hn : NetOk n) (ht : t ≤ 10000) (h : Arr n l a t out) : ∀ v ∈ out, v ≤ 10960 := by
  have key : ∀ (c : Nat) (i : Nat) (v : Int), v.toNat ≤ c → out[i]? = some v → 0 ≤ v → v ≤ 10000 + 60 * (rnk out v : Int) := by
    intro c
    induction c with
    | zero => intro i v hc hv h0; omega
    | succ c ih =>
      intro i v hc hv h0
      by_cases he : (i : Int) = a
      · have := h.tms.top
        rw [← he, gI_get hv] at this
        omega
      · have hil : i < out.length := (List.getElem?_eq_some_iff.1 hv).1
        obtain ⟨p, k, x, hx, hd, hp0, hpo⟩ := h.pred (i := (i : Int)) (by omega) (by have := h.tms.len; omega) (by rw [gI_get hv]; exact h0) he
        have hok := hn.at hx
        rw [gI_get hv] at hpo
        obtain ⟨w, hw, hg⟩ := gI_of (out := out) (i := p) (by omega) (by rw [h.tms.len]; omega)
        rw [hg] at hpo hp0
        have hlt := over_gt l (k : Int) w hok.2.2.2.1
        have := ih p.toNat w (by omega) hw hp0
        have hr := rnk_lt (out := out) (v := w) (v' := v) (w := v) (by omega) (Int.le_refl _) h0 (List.mem_of_getElem? hv)
        have hs := stF_le hf (k : Int) x.delay w
        unfold over at hpo
        omega
  intro v hv
  by_cases h0 : 0 ≤ v
  · obtain ⟨i, hi, rfl⟩ := List.getElem_of_mem hv
    have h1 := key _ i _ (Nat.le_refl _) (List.getElem?_eq_getElem hi) h0
    have h2 := rnk_le out out[i]
    have h3 := h.tms.len
    have h4 := hn.t2
    omega
  · omega
theorem WayAsk.le {n : NetP} {l : List FogD} {a b t : Int} (h : WayAsk n l a b t) (i : Int) : -1 ≤ gI (arrOf n l a t) i ∧ gI (arrOf n l a t) i ≤ 10960 := by
  have ha := h.arr
  have hb := ha.bound h.hf h.hn h.ht.2
  have hg := ha.tms.neg
  simp only [gI, List.getD_eq_getElem?_getD]
  cases hq : (arrOf n l a t)[i.toNat]? with
  | none => simp
  | some v =>
    have hm := List.mem_of_getElem? hq
    have h1 := hb v hm
    have h2 := hg v hm
    simp only [Option.getD_some]
    omega

/-! ### Later starts arrive later -/
theorem Rch.mono {n : NetP} {l : List FogD} {a t t' : Int} (ht : t' ≤ t) {i u : Int} (h : Rch n l a t i u) : ∃ u', u' ≤ u ∧ Rch n l a t' i u' := by
  induction h with
  | start => exact ⟨t', ht, .start⟩
  | hop hr hh ih =>
    obtain ⟨u', hu, hr'⟩ := ih
    obtain ⟨k, x, hx, hd, rfl⟩ := hh.out
    exact ⟨over l k x u', over_mono l _ x hu, .hop hr' ⟨k, x, hx, hd, rfl⟩⟩
theorem Rch.any {n : NetP} {l l' : List FogD} {a t t' : Int} {i u : Int} (h : Rch n l a t i u) : ∃ u', Rch n l' a t' i u' := by
  induction h with
  | start => exact ⟨t', .start⟩
  | hop hr hh ih =>
    obtain ⟨u', hr'⟩ := ih
    obtain ⟨k, x, hx, hd, rfl⟩ := hh.out
    exact ⟨over l' k x u', .hop hr' ⟨k, x, hx, hd, rfl⟩⟩
theorem arr_mono {n : NetP} {l : List FogD} {a t t' : Int} (hn : NetOk n) (ha : 0 ≤ a ∧ a ≤ (n.towers.length : Int) - 1) (h0 : 0 ≤ t') (ht : t' ≤ t) {i : Int} (hi : 0 ≤ i ∧ i ≤ (n.towers.length : Int) - 1) : gI (arrOf n l a t') i ≤ gI (arrOf n l a t) i := by
  have h1 := arrOf_arr (l := l) hn ha (show 0 ≤ t by omega)
  have h2 := arrOf_arr (l := l) hn ha h0
  rw [arrOf_get hi.1 hi.2, arrOf_get hi.1 hi.2]
  rcases best_spec n l a t i with h3 | ⟨h3, h4⟩
  · rcases best_spec n l a t' i with h5 | ⟨h5, h6⟩
    · omega
    · obtain ⟨u, hu⟩ := h6.any (l' := l) (t' := t)
      have := hu.ge hn
      have := best_some hu (by omega)
      omega
  · obtain ⟨u, hu, hr⟩ := h4.mono ht
    have := hr.ge hn
    have := best_some hr (by omega)
    omega
theorem arr_some {n : NetP} {l l' : List FogD} {a t t' : Int} (hn : NetOk n) (ha : 0 ≤ a ∧ a ≤ (n.towers.length : Int) - 1) (h0 : 0 ≤ t) (h0' : 0 ≤ t') {i : Int} (hi : 0 ≤ i ∧ i ≤ (n.towers.length : Int) - 1) (h : 0 ≤ gI (arrOf n l a t) i) : 0 ≤ gI (arrOf n l' a t') i := by
  rw [arrOf_get hi.1 hi.2] at h ⊢
  rcases best_spec n l a t i with h3 | ⟨h3, h4⟩
  · omega
  · obtain ⟨u, hu⟩ := h4.any (l' := l') (t' := t')
    have := hu.ge hn
    exact (best_some hu (by omega)).1

/-! ### First arrivals -/
noncomputable def firstOf (n : NetP) (l : List FogD) (a b t : Int) : Int × Bool := if WayAsk n l a b t ∧ 0 ≤ gI (arrOf n l a t) b then (gI (arrOf n l a t) b, true) else (0, false)
theorem first_no {n : NetP} {l : List FogD} {a b t : Int} (h : ¬ WayAsk n l a b t) : firstOf n l a b t = (0, false) := by rw [firstOf, if_neg fun hc => h hc.1]
theorem first_neg {n : NetP} {l : List FogD} {a b t : Int} (h : gI (arrOf n l a t) b < 0) : firstOf n l a b t = (0, false) := by rw [firstOf, if_neg fun hc => by omega]
theorem first_yes {n : NetP} {l : List FogD} {a b t : Int} (h : WayAsk n l a b t) (h0 : 0 ≤ gI (arrOf n l a t) b) : firstOf n l a b t = (gI (arrOf n l a t) b, true) := by rw [firstOf, if_pos ⟨h, h0⟩]
theorem first_bd (n : NetP) (l : List FogD) (a b t : Int) : 0 ≤ (firstOf n l a b t).1 ∧ (firstOf n l a b t).1 ≤ 10960 := by
  unfold firstOf
  split
  · rename_i h; have := h.1.le b; exact ⟨h.2, this.2⟩
  · simp
theorem wayAsk_plain {n : NetP} {l : List FogD} {a b t : Int} (h : WayAsk n l a b t) : WayAsk n [] a b 0 := ⟨h.hn, h.ha, h.hb, fogs_nil _, by omega⟩
noncomputable def fogDelay (n : NetP) (l : List FogD) (a b t : Int) : Int × Bool := if (firstOf n l a b t).2 = true then ((firstOf n l a b t).1 - t - (firstOf n [] a b 0).1, true) else (0, false)

/-! ### The latest start -/
structure IsLate (n : NetP) (l : List FogD) (a b t s : Int) : Prop where
  bd : 0 ≤ s ∧ s ≤ t
  yes : gI (arrOf n l a s) b ≤ t
  no : ∀ q, s < q → q ≤ t → t < gI (arrOf n l a q) b
theorem IsLate.uniq {n : NetP} {l : List FogD} {a b t s s' : Int} (h : IsLate n l a b t s) (h' : IsLate n l a b t s') : s = s' := by
  have h1 := h.bd; have h2 := h'.bd; have h3 := h.yes; have h4 := h'.yes
  by_cases e : s < s'
  · have := h.no s' e (by omega); omega
  · by_cases e' : s' < s
    · have := h'.no s e' (by omega); omega
    · omega
noncomputable def lateOf (n : NetP) (l : List FogD) (a b t : Int) : Int := open Classical in if h : ∃ s, IsLate n l a b t s then Classical.choose h else 0
theorem lateOf_eq {n : NetP} {l : List FogD} {a b t s : Int} (h : IsLate n l a b t s) : s = lateOf n l a b t := by
  have he : ∃ s, IsLate n l a b t s := ⟨s, h⟩
  unfold lateOf
  rw [dif_pos he]
  exact h.uniq (Classical.choose_spec he)
/-- on the way of halving -/
structure Late (n : NetP) (l : List FogD) (a b t lo hi : Int) : Prop where
  bd : 0 ≤ lo ∧ lo ≤ hi ∧ hi ≤ t
  yes : gI (arrOf n l a lo) b ≤ t
  no : ∀ q, hi < q → q ≤ t → t < gI (arrOf n l a q) b
theorem Late.start {n : NetP} {l : List FogD} {a b t : Int} (ht : 0 ≤ t) (h : ¬ gI (arrOf n l a 0) b > t) : Late n l a b t 0 t := ⟨by omega, by omega, fun q h1 h2 => by omega⟩
theorem Late.up {n : NetP} {l : List FogD} {a b t lo hi m : Int} (h : Late n l a b t lo hi) (hm : lo ≤ m ∧ m ≤ hi) (hy : gI (arrOf n l a m) b ≤ t) : Late n l a b t m hi := ⟨by have := h.bd; omega, hy, h.no⟩
theorem Late.down {n : NetP} {l : List FogD} {a b t lo hi m : Int} (hw : WayAsk n l a b t) (h : Late n l a b t lo hi) (hm : lo < m ∧ m ≤ hi) (hy : ¬ gI (arrOf n l a m) b ≤ t) : Late n l a b t lo (m - 1) :=
  ⟨by have := h.bd; omega, h.yes, fun q h1 h2 => by
    have h3 := h.bd
    have := arr_mono (l := l) hw.hn hw.ha (t := q) (t' := m) (by omega) (by omega) hw.hb
    omega⟩
theorem Late.ends {n : NetP} {l : List FogD} {a b t lo hi : Int} (h : Late n l a b t lo hi) (he : ¬ lo < hi) : lo = lateOf n l a b t := by
  have hb := h.bd
  exact lateOf_eq ⟨by omega, h.yes, fun q h1 h2 => h.no q (by omega) h2⟩
theorem late_any {n : NetP} {l : List FogD} {a b t s : Int} (hw : WayAsk n l a b t) (h : ¬ gI (arrOf n l a 0) b < 0) (hs : 0 ≤ s) : 0 ≤ gI (arrOf n l a s) b := arr_some (l := l) (t := 0) hw.hn hw.ha (by omega) hs hw.hb (by omega)
noncomputable def latest (n : NetP) (l : List FogD) (a b t : Int) : Int × Bool := if WayAsk n l a b t ∧ 0 ≤ gI (arrOf n l a 0) b ∧ gI (arrOf n l a 0) b ≤ t then (lateOf n l a b t, true) else (0, false)

/-! ### The net without a link -/
def netWo (n : NetP) (k : Int) : NetP := ⟨n.towers, n.links.take k.toNat ++ n.links.drop (k.toNat + 1)⟩
theorem wo_get {l : List LinkD} {k i : Nat} (hk : k < l.length) : (l.take k ++ l.drop (k + 1))[i]? = if i < k then l[i]? else l[i + 1]? := by
  have hl : (l.take k).length = k := by simp; omega
  split
  · rename_i h
    rw [List.getElem?_append_left (by omega), List.getElem?_take_of_lt h]
  · rename_i h
    rw [List.getElem?_append_right (by omega), hl, List.getElem?_drop]
    congr 1; omega
theorem lkLt_trans {x y z : LinkD} (h : lkLt x y) (h' : lkLt y z) : lkLt x z := by unfold lkLt at *; omega
theorem netWo_ok {n : NetP} (h : NetOk n) {k : Int} (h0 : 0 ≤ k) (h1 : k ≤ (n.links.length : Int) - 1) : NetOk (netWo n k) := by
  have hk : k.toNat < n.links.length := by omega
  have hlen : (netWo n k).links.length = n.links.length - 1 := by simp [netWo]; omega
  refine ⟨h.t1, h.t2, by rw [hlen]; have := h.l2; omega, h.tow, fun i x hi hx => ?_⟩
  rw [hlen] at hi
  simp only [netWo] at hx
  rw [wo_get hk] at hx
  split at hx
  · rename_i hlt
    obtain ⟨c1, c2⟩ := h.lnk i x (by omega) hx
    refine ⟨c1, fun hp y hy => c2 hp y ?_⟩
    simp only [netWo] at hy
    rw [wo_get hk, if_pos (by omega)] at hy
    exact hy
  · rename_i hge
    obtain ⟨c1, c2⟩ := h.lnk (i + 1) x (by omega) hx
    refine ⟨c1, fun hp y hy => ?_⟩
    simp only [netWo] at hy
    rw [wo_get hk] at hy
    split at hy
    · rename_i hlt
      have hz := List.getElem?_eq_getElem (show i < n.links.length by omega)
      have e1 := c2 (by omega) _ hz
      obtain ⟨d1, d2⟩ := h.lnk i _ (by omega) hz
      exact lkLt_trans (d2 hp y hy) e1
    · exact c2 (by omega) y (by rw [show i + 1 - 1 = i - 1 + 1 by omega]; exact hy)

/-! ### The link between two towers -/
abbrev btw (a b : Int) (x : LinkD) : Bool := decide ((x.a = a ∧ x.b = b) ∨ (x.a = b ∧ x.b = a))
def lkI (n : NetP) (a b : Int) : Int := firstF (btw a b) n.links 0
theorem firstF_spec {α : Type} (p : α → Bool) : ∀ (xs : List α) (i : Nat), (firstF p xs i = -1 ∧ ∀ x ∈ xs, p x = false) ∨ ∃ (j : Nat) (x : α), firstF p xs i = ((i + j : Nat) : Int) ∧ xs[j]? = some x ∧ p x = true ∧ ∀ (q : Nat) (y : α), q < j → xs[q]? = some y → p y = false
  | [], i => .inl ⟨rfl, by simp⟩
  | x :: xs, i => by
    simp only [firstF]
    cases hp : p x with
    | true => exact .inr ⟨0, x, by simp, rfl, hp, fun q y hq => by omega⟩
    | false =>
      simp only [cond_false]
      rcases firstF_spec p xs (i + 1) with ⟨h1, h2⟩ | ⟨j, y, h1, h2, h3, h4⟩
      · left
        refine ⟨h1, fun y hy => ?_⟩
        rcases List.mem_cons.1 hy with rfl | hy
        · exact hp
        · exact h2 y hy
      · right
        refine ⟨j + 1, y, by rw [h1]; omega, by simpa using h2, h3, fun q z hq hz => ?_⟩
        cases q with
        | zero => simp at hz; subst hz; exact hp
        | succ q => exact h4 q z (by omega) (by simpa using hz)
theorem lkLt_of {n : NetP} (h : NetOk n) {i j : Nat} {x y : LinkD} (hx : n.links[i]? = some x) (hy : n.links[j]? = some y) (hij : i < j) : lkLt x y := by
  induction j generalizing y with
  | zero => omega
  | succ j ih =>
    have hj := (List.getElem?_eq_some_iff.1 hy).1
    have hz := List.getElem?_eq_getElem (show j < n.links.length by omega)
    have hzy := (h.lnk (j + 1) y hj hy).2 (by omega) _ hz
    by_cases e : i = j
    · subst e; rw [hx] at hz; have := Option.some.inj hz; subst this; exact hzy
    · exact lkLt_trans (ih hz (by omega)) hzy
theorem lkI_spec {n : NetP} (h : NetOk n) (a b : Int) : (lkI n a b = -1 ∧ ∀ x ∈ n.links, btw a b x = false) ∨ ∃ (k : Nat) (x : LinkD), lkI n a b = (k : Int) ∧ n.links[k]? = some x ∧ btw a b x = true ∧ ∀ (q : Nat) (y : LinkD), n.links[q]? = some y → btw a b y = true → q = k := by
  rcases firstF_spec (btw a b) n.links 0 with h1 | ⟨j, x, h1, h2, h3, h4⟩
  · exact .inl h1
  · right
    refine ⟨j, x, by rw [lkI, h1]; omega, h2, h3, fun q y hq hy => ?_⟩
    have e1 := h.at h2
    have e2 := h.at hq
    simp only [btw, decide_eq_true_eq] at h3 hy
    rcases Nat.lt_trichotomy q j with e | e | e
    · have := lkLt_of h hq h2 e
      unfold lkLt at this; omega
    · exact e
    · have := lkLt_of h h2 hq e
      unfold lkLt at this; omega
theorem lkI_bd {n : NetP} (h : NetOk n) (a b : Int) : -1 ≤ lkI n a b ∧ lkI n a b ≤ (n.links.length : Int) - 1 := by
  rcases lkI_spec h a b with h1 | ⟨k, x, h1, h2, _⟩
  · omega
  · have := (List.getElem?_eq_some_iff.1 h2).1; omega

/-! ### The tower before another one -/
structure Good (n : NetP) (l : List FogD) (first : List Int) (i p : Int) : Prop where
  pos : 0 ≤ gI first p
  out : ∃ (k : Nat) (x : LinkD), n.links[k]? = some x ∧ btw p i x = true ∧ over l (k : Int) x (gI first p) = gI first i
theorem good_lk {n : NetP} (hn : NetOk n) {l : List FogD} {first : List Int} {i p : Int} : Good n l first i p ↔ (0 ≤ lkI n p i ∧ 0 ≤ gI first p ∧ over l (lkI n p i) (lk n (lkI n p i)) (gI first p) = gI first i) := by
  constructor
  · rintro ⟨h1, k, x, h2, h3, h4⟩
    rcases lkI_spec hn p i with ⟨_, h5⟩ | ⟨k', x', h5, h6, _, h7⟩
    · rw [h5 x (List.mem_of_getElem? h2)] at h3; cases h3
    · obtain rfl := h7 k x h2 h3
      rw [h5, lk_get h2]
      exact ⟨by omega, h1, h4⟩
  · rintro ⟨h1, h2, h3⟩
    rcases lkI_spec hn p i with ⟨h5, _⟩ | ⟨k', x', h5, h6, h7, _⟩
    · omega
    · rw [h5, lk_get h6] at h3
      exact ⟨h2, k', x', h6, h7, h3⟩
structure IsPrev (n : NetP) (l : List FogD) (first : List Int) (i p : Int) : Prop where
  bd : 0 ≤ p
  good : Good n l first i p
  least : ∀ q, 0 ≤ q → q < p → ¬ Good n l first i q
theorem IsPrev.uniq {n : NetP} {l : List FogD} {first : List Int} {i p p' : Int} (h : IsPrev n l first i p) (h' : IsPrev n l first i p') : p = p' := by
  have h1 := h.bd; have h2 := h'.bd
  by_cases e : p < p'
  · exact absurd h.good (h'.least p h1 e)
  · by_cases e' : p' < p
    · exact absurd h'.good (h.least p' h2 e')
    · omega
noncomputable def prevOf (n : NetP) (l : List FogD) (first : List Int) (i : Int) : Int := open Classical in if h : ∃ p, IsPrev n l first i p then Classical.choose h else -1
theorem prevOf_eq {n : NetP} {l : List FogD} {first : List Int} {i p : Int} (h : IsPrev n l first i p) : p = prevOf n l first i := by
  have he : ∃ p, IsPrev n l first i p := ⟨p, h⟩
  unfold prevOf
  rw [dif_pos he]
  exact h.uniq (Classical.choose_spec he)
theorem Good.tower {n : NetP} (hn : NetOk n) {l : List FogD} {first : List Int} {i p : Int} (h : Good n l first i p) : 0 ≤ p ∧ p ≤ (n.towers.length : Int) - 1 := by
  obtain ⟨k, x, hx, hb, _⟩ := h.out
  have := hn.at hx
  simp only [btw, decide_eq_true_eq] at hb
  omega
theorem Good.lt {n : NetP} (hn : NetOk n) {l : List FogD} {first : List Int} {i p : Int} (h : Good n l first i p) : gI first p < gI first i := by
  obtain ⟨k, x, hx, hb, ho⟩ := h.out
  have h1 := hn.at hx
  have := over_gt l (k : Int) (gI first p) h1.2.2.2.1
  omega
theorem Arr.good {n : NetP} {l : List FogD} {a t : Int} {out : List Int} (h : Arr n l a t out) {i : Int} (hi : 0 ≤ i) (hl : i ≤ (n.towers.length : Int) - 1) (h0 : 0 ≤ gI out i) (hne : i ≠ a) : ∃ p, Good n l out i p := by
  obtain ⟨p, k, x, hx, hd, hp, ho⟩ := h.pred hi hl h0 hne
  exact ⟨p, hp, k, x, hx, by simp only [btw, decide_eq_true_eq]; omega, ho⟩
/-- the way to i, found from its end -/
noncomputable def wayL (n : NetP) (l : List FogD) (first : List Int) (a : Int) : Nat → Int → List Int
  | 0, i => [i]
  | f + 1, i => if i = a then [i] else wayL n l first a f (prevOf n l first i) ++ [i]
theorem wayL_len (n : NetP) (l : List FogD) (first : List Int) (a : Int) : ∀ (f : Nat) (i : Int), (wayL n l first a f i).length ≤ f + 1
  | 0, i => by simp [wayL]
  | f + 1, i => by
    have := wayL_len n l first a f (prevOf n l first i)
    rw [wayL]; split <;> simp <;> omega

/-! ### Along a way -/
structure WayOk (n : NetP) (way : List Int) : Prop where
  len : 1 ≤ way.length ∧ way.length ≤ 16
  all : AllIn 0 ((n.towers.length : Int) - 1) way
  step : ∀ (i : Nat) (x : Int), way[i]? = some x → x ∉ way.take i ∧ (0 < i → ∀ y, way[i - 1]? = some y → 0 ≤ lkI n y x)
noncomputable instance (n : NetP) (way : List Int) : Decidable (WayOk n way) := Classical.propDecidable _
/-- the first k towers of a way are well -/
abbrev WayTo (n : NetP) (way : List Int) (k : Nat) : Prop := ∀ (i : Nat) (x : Int), i < k → way[i]? = some x → x ∉ way.take i ∧ (0 < i → ∀ y, way[i - 1]? = some y → 0 ≤ lkI n y x)
theorem way_snoc {n : NetP} {way : List Int} {k : Nat} {x : Int} (h : WayTo n way k) (hx : way[k]? = some x) (h1 : x ∉ way.take k) (h2 : 0 < k → ∀ y, way[k - 1]? = some y → 0 ≤ lkI n y x) : WayTo n way (k + 1) := by
  intro i y hi hy
  by_cases e : i = k
  · subst e; rw [hx] at hy; obtain rfl := Option.some.inj hy; exact ⟨h1, h2⟩
  · exact h i y (by omega) hy
theorem way_end {n : NetP} {way : List Int} {k : Nat} (hl : 1 ≤ way.length ∧ way.length ≤ 16) (ha : AllIn 0 ((n.towers.length : Int) - 1) way) (h : WayTo n way k) (hk : ¬ (k : Int) < (way.length : Int)) : decide (WayOk n way) = true :=
  decide_eq_true ⟨hl, ha, fun i x hx => h i x (by have := (List.getElem?_eq_some_iff.1 hx).1; omega) hx⟩
theorem way_bad {n : NetP} {way : List Int} {k : Nat} {x : Int} (hx : way[k]? = some x) (h : ¬ (x ∉ way.take k ∧ (0 < k → ∀ y, way[k - 1]? = some y → 0 ≤ lkI n y x))) : decide (WayOk n way) = false := decide_eq_false fun hn => h (hn.step k x hx)
theorem way_bad1 {n : NetP} {way : List Int} (h : ¬ (1 ≤ way.length ∧ way.length ≤ 16)) : decide (WayOk n way) = false := decide_eq_false fun hn => h hn.len
theorem way_bad2 {n : NetP} {way : List Int} (h : ¬ AllIn 0 ((n.towers.length : Int) - 1) way) : decide (WayOk n way) = false := decide_eq_false fun hn => h hn.all
def linksTo (n : NetP) (way : List Int) (k : Nat) : List Int := (List.range k).map fun i : Nat => lkI n (gI way (i : Int)) (gI way ((i : Int) + 1))
def linksOf (n : NetP) (way : List Int) : List Int := linksTo n way (way.length - 1)
theorem linksTo_len (n : NetP) (way : List Int) (k : Nat) : (linksTo n way k).length = k := by simp [linksTo]
theorem linksTo_succ (n : NetP) (way : List Int) (k : Nat) : linksTo n way (k + 1) = linksTo n way k ++ [lkI n (gI way (k : Int)) (gI way ((k : Int) + 1))] := by simp [linksTo, List.range_succ]
theorem linksTo_at {n : NetP} {way : List Int} {k : Nat} {x y : Int} (hx : way[k]? = some x) (hy : way[k + 1]? = some y) : linksTo n way (k + 1) = linksTo n way k ++ [lkI n x y] := by
  rw [linksTo_succ, gI_get hx, show ((k : Int) + 1) = ((k + 1 : Nat) : Int) by omega, gI_get hy]
theorem linksTo_take (n : NetP) (way : List Int) {k m : Nat} (h : k ≤ m) : (linksTo n way m).take k = linksTo n way k := by
  simp only [linksTo, ← List.map_take, List.take_range]
  rw [Nat.min_eq_left h]
theorem linksOf_at {n : NetP} {way : List Int} {k : Nat} {x y : Int} (hx : way[k]? = some x) (hy : way[k + 1]? = some y) : (linksOf n way)[k]? = some (lkI n x y) := by
  have hk := (List.getElem?_eq_some_iff.1 hy).1
  have h1 : (linksOf n way).take (k + 1) = linksTo n way (k + 1) := linksTo_take n way (by omega)
  have h2 : ((linksOf n way).take (k + 1))[k]? = some (lkI n x y) := by
    rw [h1, linksTo_at hx hy, List.getElem?_append_right (by rw [linksTo_len]; omega), linksTo_len, Nat.sub_self]; rfl
  rwa [List.getElem?_take_of_lt (by omega)] at h2
theorem WayOk.links {n : NetP} {way : List Int} (hn : NetOk n) (h : WayOk n way) {k : Nat} {z : Int} (hz : (linksOf n way)[k]? = some z) : 0 ≤ z ∧ z ≤ (n.links.length : Int) - 1 := by
  have hk := (List.getElem?_eq_some_iff.1 hz).1
  rw [linksOf, linksTo_len] at hk
  have hx := List.getElem?_eq_getElem (show k < way.length by omega)
  have hy := List.getElem?_eq_getElem (show k + 1 < way.length by omega)
  rw [linksOf_at hx hy] at hz
  obtain rfl := Option.some.inj hz
  exact ⟨(h.step (k + 1) _ hy).2 (by omega) _ hx, (lkI_bd hn _ _).2⟩
theorem WayOk.link {n : NetP} {way : List Int} (h : WayOk n way) {k : Nat} {x y : Int} (hx : way[k]? = some x) (hy : way[k + 1]? = some y) : 0 ≤ lkI n x y := (h.step (k + 1) y hy).2 (by omega) x hx
def alStep (n : NetP) (l : List FogD) (s : Int × List Int) (k : Int) : Int × List Int := (over l k (lk n k) s.1, s.2 ++ [over l k (lk n k) s.1 - s.1 - (lk n k).delay])
def alTo (n : NetP) (l : List FogD) (ks : List Int) (t : Int) : Int × List Int := ks.foldl (alStep n l) (t, [])
theorem alTo_snoc (n : NetP) (l : List FogD) (ks : List Int) (t : Int) (k : Int) : alTo n l (ks ++ [k]) t = alStep n l (alTo n l ks t) k := by simp [alTo]
theorem alTo_len (n : NetP) (l : List FogD) (ks : List Int) (t : Int) : (alTo n l ks t).2.length = ks.length := by
  have : ∀ (ks : List Int) (s : Int × List Int), (ks.foldl (alStep n l) s).2.length = s.2.length + ks.length := by
    intro ks
    induction ks with
    | nil => intro s; simp
    | cons k ks ih => intro s; simp only [List.foldl_cons, ih, alStep, List.length_append, List.length_cons, List.length_nil]; omega
  simpa [alTo] using this ks (t, [])
/-- times on the way -/
theorem alTo_bd {n : NetP} {l : List FogD} {way : List Int} {t : Int} {m : Nat} (hn : NetOk n) (hf : FogsOk m l) (hw : WayOk n way) (ht : 0 ≤ t ∧ t ≤ 10000) : ∀ k, k ≤ (linksOf n way).length → t ≤ (alTo n l ((linksOf n way).take k) t).1 ∧ (alTo n l ((linksOf n way).take k) t).1 ≤ 10000 + 60 * (k : Int) := by
  intro k
  induction k with
  | zero => intro _; simp [alTo]; exact ht.2
  | succ k ih =>
    intro hk
    have hz := List.getElem?_eq_getElem (show k < (linksOf n way).length by omega)
    have hzb := hw.links hn hz
    generalize (linksOf n way)[k] = z at hz hzb
    rw [snoc_get hz, alTo_snoc]
    have h1 := ih (by omega)
    simp only [alStep]
    have hx := lk_at (n := n) hzb.1 hzb.2
    have hok := hn.at hx
    have h2 := over_gt l z (x := lk n z) (alTo n l ((linksOf n way).take k) t).1 hok.2.2.2.1
    have h3 := stF_le hf z (lk n z).delay (alTo n l ((linksOf n way).take k) t).1
    refine ⟨by omega, ?_⟩
    unfold over
    omega
structure AlongAsk (n : NetP) (l : List FogD) (way : List Int) (t : Int) : Prop where
  hn : NetOk n
  hf : FogsOk n.links.length l
  ht : 0 ≤ t ∧ t ≤ 10000
  hw : WayOk n way
noncomputable instance (n : NetP) (l : List FogD) (way : List Int) (t : Int) : Decidable (AlongAsk n l way t) := Classical.propDecidable _
noncomputable def alongOf (n : NetP) (l : List FogD) (way : List Int) (t : Int) : Int × List Int × Bool := if AlongAsk n l way t then ((alTo n l (linksOf n way) t).1, (alTo n l (linksOf n way) t).2, true) else (0, [], false)
theorem along_no {n : NetP} {l : List FogD} {way : List Int} {t : Int} (h : ¬ AlongAsk n l way t) : alongOf n l way t = (0, [], false) := by rw [alongOf, if_neg h]
theorem along_yes {n : NetP} {l : List FogD} {way : List Int} {t : Int} (h : AlongAsk n l way t) : alongOf n l way t = ((alTo n l (linksOf n way) t).1, (alTo n l (linksOf n way) t).2, true) := by rw [alongOf, if_pos h]
theorem along_len (n : NetP) (l : List FogD) (way : List Int) (t : Int) : (alongOf n l way t).2.1.length ≤ 15 := by
  unfold alongOf
  split
  · rename_i h
    have := h.hw.len
    simp only [alTo_len, linksOf, linksTo_len]; omega
  · simp
/-- the wait before a link -/
theorem alTo_wait {n : NetP} {l : List FogD} {ks : List Int} {t : Int} {k : Nat} {z w : Int} (hz : ks[k]? = some z) (hw : (alTo n l ks t).2[k]? = some w) : (alTo n l (ks.take (k + 1)) t).1 = (alTo n l (ks.take k) t).1 + (w + (lk n z).delay) := by
  have gen : ∀ (ks : List Int) (s : Int × List Int) (k : Nat) (z w : Int), ks[k]? = some z → (ks.foldl (alStep n l) s).2[s.2.length + k]? = some w → ((ks.take (k + 1)).foldl (alStep n l) s).1 = ((ks.take k).foldl (alStep n l) s).1 + (w + (lk n z).delay) := by
    intro ks
    have pre : ∀ (ks : List Int) (s : Int × List Int) (i : Nat), i < s.2.length → (ks.foldl (alStep n l) s).2[i]? = s.2[i]? := by
      intro ks
      induction ks with
      | nil => intro s i hi; rfl
      | cons y ks ih =>
        intro s i hi
        rw [List.foldl_cons, ih _ _ (by simp [alStep]; omega)]
        simp only [alStep]
        rw [List.getElem?_append_left hi]
    induction ks with
    | nil => intro s k z w hz; simp at hz
    | cons y ks ih =>
      intro s k z w hz hw
      cases k with
      | zero =>
        simp at hz; subst hz
        rw [List.foldl_cons, pre _ _ _ (by simp [alStep])] at hw
        simp only [alStep, Nat.add_zero, List.getElem?_append_right (Nat.le_refl _), Nat.sub_self, List.getElem?_cons_zero] at hw
        have := Option.some.inj hw
        simp only [List.take_succ_cons, List.take_zero, List.foldl_cons, List.foldl_nil, alStep]
        omega
      | succ k =>
        simp only [List.take_succ_cons, List.foldl_cons]
        refine ih _ _ _ _ (by simpa using hz) ?_
        rw [List.foldl_cons] at hw
        rw [show (alStep n l s y).2.length + k = s.2.length + (k + 1) by simp [alStep]; omega]
        exact hw
  exact gen ks (t, []) k z w hz (by simpa [alTo] using hw)
end Go.Proofs.Ythagdkmalchhgaa
