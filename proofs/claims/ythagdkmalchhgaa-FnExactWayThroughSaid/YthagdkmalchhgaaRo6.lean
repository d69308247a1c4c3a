/- Earliest times of towers: plain laws on nets with fog (two ways to find them end alike). Condition: none. -/
import Derived.Test.YthagdkmalchhgaaRo4
namespace Go.Proofs.Ythagdkmalchhgaa
open Go.Vc
set_option linter.all false

/-! ### Going over a link -/
theorem stF_cons (l : List FogD) (k s t : Int) (x : FogD) : stF (x :: l) k t s = stF l k (if x.link = k ∧ x.til > t ∧ x.fr < t + s then x.til else t) s := rfl
theorem stF_ge (l : List FogD) (k s t : Int) : t ≤ stF l k t s := by
  induction l generalizing t with
  | nil => exact Int.le_refl _
  | cons x l ih =>
    rw [stF_cons]
    refine Int.le_trans ?_ (ih _)
    split <;> omega
theorem stF_mono (l : List FogD) (k s : Int) {t t' : Int} (h : t ≤ t') : stF l k t s ≤ stF l k t' s := by
  induction l generalizing t t' with
  | nil => exact h
  | cons x l ih =>
    rw [stF_cons, stF_cons]
    apply ih
    split <;> split <;> omega
theorem stF_le {m : Nat} {l : List FogD} (h : FogsOk m l) (k s t : Int) : stF l k t s ≤ t ∨ stF l k t s ≤ 10000 := by
  have := (stF_bd h k t s l.length).2
  rwa [List.take_length] at this
theorem fogs_nil (m : Nat) : FogsOk m [] := ⟨by simp, fun i x hi => by simp at hi⟩
def over (l : List FogD) (k : Int) (x : LinkD) (t : Int) : Int := stF l k t x.delay + x.delay
theorem over_mono (l : List FogD) (k : Int) (x : LinkD) {t t' : Int} (h : t ≤ t') : over l k x t ≤ over l k x t' := by
  have := stF_mono l k x.delay h
  unfold over; omega
theorem over_gt (l : List FogD) (k : Int) {x : LinkD} (t : Int) (h : 1 ≤ x.delay) : t < over l k x t := by
  have := stF_ge l k x.delay t
  unfold over; omega

/-! ### Lists of times -/
def lk (n : NetP) (k : Int) : LinkD := n.links.getD k.toNat ⟨0, 0, 0⟩
theorem lk_get {n : NetP} {k : Nat} {x : LinkD} (h : n.links[k]? = some x) : lk n (k : Int) = x := by simp [lk, h]
theorem lk_at {n : NetP} {k : Int} (h0 : 0 ≤ k) (h1 : k ≤ (n.links.length : Int) - 1) : n.links[k.toNat]? = some (lk n k) := by
  have : k.toNat < n.links.length := by omega
  simp [lk, this]
abbrev gI (out : List Int) (i : Int) : Int := out.getD i.toNat (-1)
theorem gI_get {out : List Int} {i : Nat} {v : Int} (h : out[i]? = some v) : gI out (i : Int) = v := by simp [gI, h]
theorem gI_of {out : List Int} {i : Int} (h0 : 0 ≤ i) (h1 : i < out.length) : ∃ v, out[i.toNat]? = some v ∧ gI out i = v := by
  have : i.toNat < out.length := by omega
  exact ⟨out[i.toNat], by simp [this], by simp [gI, this]⟩
theorem gI_out {out : List Int} {i : Int} (h : (out.length : Int) ≤ i) : gI out i = -1 := by
  have : out.length ≤ i.toNat := by omega
  simp [gI, this]
theorem gI_self {out : List Int} {i : Int} {v : Int} (h0 : 0 ≤ i) (h1 : i < out.length) : gI (out.set i.toNat v) i = v := by
  have : i.toNat < out.length := by omega
  simp [gI, this]
theorem gI_ne {out : List Int} {i j : Int} {v : Int} (h0 : 0 ≤ i) (hj : 0 ≤ j) (hn : i ≠ j) : gI (out.set i.toNat v) j = gI out j := by
  have : i.toNat ≠ j.toNat := by omega
  simp [gI, List.getElem?_set_ne this]

structure Hop (n : NetP) (l : List FogD) (i u j v : Int) : Prop where
  out : ∃ (k : Nat) (x : LinkD), n.links[k]? = some x ∧ ((x.a = i ∧ x.b = j) ∨ (x.b = i ∧ x.a = j)) ∧ v = over l (k : Int) x u
inductive Rch (n : NetP) (l : List FogD) (a t : Int) : Int → Int → Prop where
  | start : Rch n l a t a t
  | hop {i u j v : Int} : Rch n l a t i u → Hop n l i u j v → Rch n l a t j v

/-- at these links nothing is to be won any more -/
abbrev LinkDone (l : List FogD) (out : List Int) (k : Nat) (x : LinkD) : Prop :=
  (0 ≤ gI out x.a → 0 ≤ gI out x.b ∧ gI out x.b ≤ over l (k : Int) x (gI out x.a)) ∧ (0 ≤ gI out x.b → 0 ≤ gI out x.a ∧ gI out x.a ≤ over l (k : Int) x (gI out x.b))
abbrev DoneTo (n : NetP) (l : List FogD) (out : List Int) (m : Nat) : Prop := ∀ (k : Nat) (x : LinkD), k < m → n.links[k]? = some x → LinkDone l out k x
structure Tms (n : NetP) (l : List FogD) (a t : Int) (out : List Int) : Prop where
  len : out.length = n.towers.length
  neg : ∀ v ∈ out, v = -1 ∨ 0 ≤ v
  rch : ∀ (i : Nat) (v : Int), out[i]? = some v → 0 ≤ v → Rch n l a t (i : Int) v
  top : 0 ≤ gI out a ∧ gI out a ≤ t
structure Arr (n : NetP) (l : List FogD) (a t : Int) (out : List Int) : Prop where
  tms : Tms n l a t out
  done : DoneTo n l out n.links.length

theorem Arr.least {n : NetP} {l : List FogD} {a t : Int} {out : List Int} (h : Arr n l a t out) {i u : Int} (hr : Rch n l a t i u) : 0 ≤ gI out i ∧ gI out i ≤ u := by
  induction hr with
  | start => exact h.tms.top
  | @hop i u j v hr hh ih =>
    obtain ⟨k, x, hx, hd, rfl⟩ := hh.out
    have hk := (List.getElem?_eq_some_iff.1 hx).1
    obtain ⟨d1, d2⟩ := h.done k x hk hx
    rcases hd with ⟨rfl, rfl⟩ | ⟨rfl, rfl⟩
    · exact ⟨(d1 ih.1).1, Int.le_trans (d1 ih.1).2 (over_mono l _ x ih.2)⟩
    · exact ⟨(d2 ih.1).1, Int.le_trans (d2 ih.1).2 (over_mono l _ x ih.2)⟩
theorem Arr.uniq {n : NetP} {l : List FogD} {a t : Int} {o1 o2 : List Int} (h1 : Arr n l a t o1) (h2 : Arr n l a t o2) : o1 = o2 := by
  have key : ∀ {p q : List Int}, Arr n l a t p → Arr n l a t q → ∀ (i : Nat) (v : Int), p[i]? = some v → 0 ≤ v → 0 ≤ gI q i ∧ gI q i ≤ v := fun hp hq i v hv h0 => hq.least (hp.tms.rch i v hv h0)
  apply List.ext_getElem?
  intro i
  by_cases hi : i < n.towers.length
  · obtain ⟨v1, e1⟩ : ∃ v, o1[i]? = some v := ⟨_, List.getElem?_eq_getElem (by rw [h1.tms.len]; exact hi)⟩
    obtain ⟨v2, e2⟩ : ∃ v, o2[i]? = some v := ⟨_, List.getElem?_eq_getElem (by rw [h2.tms.len]; exact hi)⟩
    rw [e1, e2]
    have n1 := h1.tms.neg v1 (List.mem_of_getElem? e1)
    have n2 := h2.tms.neg v2 (List.mem_of_getElem? e2)
    have k1 := key h1 h2 i v1 e1
    have k2 := key h2 h1 i v2 e2
    rw [gI_get e2] at k1
    rw [gI_get e1] at k2
    congr 1
    omega
  · rw [List.getElem?_eq_none (by rw [h1.tms.len]; omega), List.getElem?_eq_none (by rw [h2.tms.len]; omega)]
theorem NetOk.at {n : NetP} (h : NetOk n) {k : Nat} {x : LinkD} (hx : n.links[k]? = some x) : LinkOk n.towers.length x := (h.lnk k x (List.getElem?_eq_some_iff.1 hx).1 hx).1
theorem Rch.ge {n : NetP} {l : List FogD} {a t : Int} (hn : NetOk n) {i u : Int} (h : Rch n l a t i u) : t ≤ u := by
  induction h with
  | start => exact Int.le_refl _
  | hop hr hh ih =>
    obtain ⟨k, x, hx, hd, rfl⟩ := hh.out
    exact Int.le_trans ih (Int.le_of_lt (over_gt l _ _ (hn.at hx).2.2.2.1))
theorem Rch.tower {n : NetP} {l : List FogD} {a t : Int} (hn : NetOk n) (ha : 0 ≤ a ∧ a ≤ (n.towers.length : Int) - 1) {i u : Int} (h : Rch n l a t i u) : 0 ≤ i ∧ i ≤ (n.towers.length : Int) - 1 := by
  cases h with
  | start => exact ha
  | hop hr hh =>
    obtain ⟨k, x, hx, hd, rfl⟩ := hh.out
    have := hn.at hx
    omega
theorem least_nat {p : Nat → Prop} (h : ∃ n, p n) : ∃ n, p n ∧ ∀ m, p m → n ≤ m := by
  classical
  obtain ⟨n, hn⟩ := h
  induction n using Nat.strongRecOn with
  | _ n ih =>
    by_cases hm : ∃ m, m < n ∧ p m
    · obtain ⟨m, h1, h2⟩ := hm
      exact ih m h1 h2
    · exact ⟨n, hn, fun m hp => by
        by_cases e : m < n
        · exact absurd ⟨m, e, hp⟩ hm
        · omega⟩
noncomputable def best (n : NetP) (l : List FogD) (a t i : Int) : Int := open Classical in if h : ∃ u : Nat, Rch n l a t i (u : Int) then ((Classical.choose (least_nat h) : Nat) : Int) else -1
theorem best_some {n : NetP} {l : List FogD} {a t i u : Int} (h : Rch n l a t i u) (h0 : 0 ≤ u) : 0 ≤ best n l a t i ∧ best n l a t i ≤ u ∧ Rch n l a t i (best n l a t i) := by
  classical
  have he : ∃ u : Nat, Rch n l a t i (u : Int) := ⟨u.toNat, by rw [show ((u.toNat : Nat) : Int) = u by omega]; exact h⟩
  unfold best
  rw [dif_pos he]
  obtain ⟨h1, h3⟩ := Classical.choose_spec (least_nat he)
  have h2 := h3 u.toNat (by rw [show ((u.toNat : Nat) : Int) = u by omega]; exact h)
  exact ⟨by omega, by omega, h1⟩
theorem best_spec (n : NetP) (l : List FogD) (a t i : Int) : best n l a t i = -1 ∨ (0 ≤ best n l a t i ∧ Rch n l a t i (best n l a t i)) := by
  classical
  unfold best
  by_cases he : ∃ u : Nat, Rch n l a t i (u : Int)
  · rw [dif_pos he]; exact .inr ⟨by omega, (Classical.choose_spec (least_nat he)).1⟩
  · rw [dif_neg he]; exact .inl rfl
noncomputable def arrOf (n : NetP) (l : List FogD) (a t : Int) : List Int := (List.range n.towers.length).map fun i : Nat => best n l a t (i : Int)
theorem arrOf_get {n : NetP} {l : List FogD} {a t i : Int} (h0 : 0 ≤ i) (h1 : i ≤ (n.towers.length : Int) - 1) : gI (arrOf n l a t) i = best n l a t i := by
  have : i.toNat < n.towers.length := by omega
  simp only [gI, arrOf, List.getD_eq_getElem?_getD, List.getElem?_map, List.getElem?_range this, Option.map_some, Option.getD_some]
  rw [show ((i.toNat : Nat) : Int) = i by omega]
theorem arrOf_arr {n : NetP} {l : List FogD} {a t : Int} (hn : NetOk n) (ha : 0 ≤ a ∧ a ≤ (n.towers.length : Int) - 1) (ht : 0 ≤ t) : Arr n l a t (arrOf n l a t) := by
  have edge : ∀ {i j : Int} {k : Nat} {x : LinkD}, n.links[k]? = some x → ((x.a = i ∧ x.b = j) ∨ (x.b = i ∧ x.a = j)) → 0 ≤ gI (arrOf n l a t) i → 0 ≤ gI (arrOf n l a t) j ∧ gI (arrOf n l a t) j ≤ over l (k : Int) x (gI (arrOf n l a t) i) := by
    intro i j k x hx hd h0
    have hok := hn.at hx
    rw [arrOf_get (by omega) (by omega)] at h0 ⊢
    rw [arrOf_get (by omega) (by omega)]
    rcases best_spec n l a t i with h1 | ⟨h1, h2⟩
    · omega
    · have := over_gt l (k : Int) (best n l a t i) hok.2.2.2.1
      have h3 := best_some (.hop h2 ⟨k, x, hx, hd, rfl⟩) (by omega)
      exact ⟨h3.1, h3.2.1⟩
  refine ⟨⟨by simp [arrOf], fun v hv => ?_, fun i v hi hv => ?_, ?_⟩, fun k x hk hx => ⟨edge hx (.inl ⟨rfl, rfl⟩), edge hx (.inr ⟨rfl, rfl⟩)⟩⟩
  · simp only [arrOf, List.mem_map] at hv
    obtain ⟨i, hi, rfl⟩ := hv
    rcases best_spec n l a t i with h1 | h1
    · exact .inl h1
    · exact .inr h1.1
  · have hil : i < n.towers.length := by
      have := (List.getElem?_eq_some_iff.1 hi).1
      simpa [arrOf] using this
    have := gI_get hi
    rw [arrOf_get (by omega) (by omega)] at this
    rcases best_spec n l a t (i : Int) with h1 | h1
    · omega
    · rw [this] at h1; exact h1.2
  · rw [arrOf_get ha.1 ha.2]
    have := best_some (n := n) (l := l) (.start (n := n) (l := l) (a := a) (t := t)) ht
    exact ⟨this.1, this.2.1⟩
theorem arrOf_eq {n : NetP} {l : List FogD} {a t : Int} {out : List Int} (hn : NetOk n) (ha : 0 ≤ a ∧ a ≤ (n.towers.length : Int) - 1) (ht : 0 ≤ t) (h : Arr n l a t out) : out = arrOf n l a t := h.uniq (arrOf_arr hn ha ht)

/-! ### How great times grow, and how often they can be bettered -/
def cnt (out : List Int) : Nat := (out.map fun v => if 0 ≤ v then 1 else 0).sum
def potO (out : List Int) : Nat := (out.map fun v => if v < 0 then 20000 else v.toNat).sum
theorem sum_set {f : Int → Nat} : ∀ {l : List Int} {i : Nat} {v : Int} (y : Int), l[i]? = some v → ((l.set i y).map f).sum + f v = (l.map f).sum + f y
  | [], i, v, y, h => by simp at h
  | x :: l, 0, v, y, h => by simp at h; subst h; simp; omega
  | x :: l, i + 1, v, y, h => by
    have := sum_set (f := f) (l := l) (i := i) y (by simpa using h)
    simp only [List.set_cons_succ, List.map_cons, List.sum_cons]; omega
theorem cnt_le (out : List Int) : cnt out ≤ out.length := by
  induction out with
  | nil => simp [cnt]
  | cons x l ih => simp only [cnt, List.map_cons, List.sum_cons, List.length_cons] at *; split <;> omega
/-- times so far: not too great -/
structure Bnd (out : List Int) : Prop where
  le : ∀ v ∈ out, v ≤ 10000 + 60 * (cnt out : Int) - 60
theorem Bnd.top {n : NetP} (hn : NetOk n) {out : List Int} (hl : out.length = n.towers.length) (h : Bnd out) : ∀ v ∈ out, v ≤ 10900 := by
  intro v hv
  have := h.le v hv
  have := cnt_le out
  have := hn.t2
  omega
theorem over_le {m : Nat} {l : List FogD} (hf : FogsOk m l) {k : Int} {x : LinkD} (hd : x.delay ≤ 60) {t : Int} {c : Nat} (h : t ≤ 10000 + 60 * (c : Int) - 60) (hc : 1 ≤ c) : over l k x t ≤ 10000 + 60 * (c : Int) := by
  have := stF_le hf k x.delay t
  unfold over
  omega
/-- one time is bettered -/
theorem better {n : NetP} {l : List FogD} {a t : Int} {m : Nat} (hf : FogsOk m l) {out : List Int} (hT : Tms n l a t out) (hB : Bnd out) (h16 : n.towers.length ≤ 16) (ha : 0 ≤ a) {k : Nat} {x : LinkD} (hx : n.links[k]? = some x) (hd : 1 ≤ x.delay ∧ x.delay ≤ 60)
    {i j : Nat} {u w : Int} (he : (x.a = (i : Int) ∧ x.b = (j : Int)) ∨ (x.b = (i : Int) ∧ x.a = (j : Int))) (hu : out[i]? = some u) (h0 : 0 ≤ u) (hw : out[j]? = some w) (hb : w < 0 ∨ over l (k : Int) x u < w) :
    Tms n l a t (out.set j (over l (k : Int) x u)) ∧ Bnd (out.set j (over l (k : Int) x u)) ∧ potO (out.set j (over l (k : Int) x u)) < potO out := by
  have hgt := over_gt l (k : Int) u hd.1
  have hlt : j < out.length := (List.getElem?_eq_some_iff.1 hw).1
  have hcnt := sum_set (f := fun v : Int => if 0 ≤ v then 1 else 0) (over l (k : Int) x u) hw
  have hpot := sum_set (f := fun v : Int => if v < 0 then 20000 else v.toNat) (over l (k : Int) x u) hw
  have hc1 : 1 ≤ cnt out := by
    have h1 := sum_set (f := fun v : Int => if 0 ≤ v then 1 else 0) (-1) hu
    simp only [cnt]
    rw [if_pos h0] at h1
    simp at h1
    omega
  have hcu := hB.le u (List.mem_of_getElem? hu)
  have hov := over_le hf hd.2 (k := (k : Int)) hcu hc1
  have hbw := hB.le w (List.mem_of_getElem? hw)
  have hc16 := cnt_le out
  refine ⟨⟨by simp [hT.len], fun v hv => ?_, fun q v hq hv => ?_, ?_⟩, ⟨fun v hv => ?_⟩, ?_⟩
  · rcases List.mem_or_eq_of_mem_set hv with hv | rfl
    · exact hT.neg v hv
    · omega
  · by_cases e : q = j
    · subst e
      rw [List.getElem?_set_self hlt] at hq
      obtain rfl := Option.some.inj hq
      exact .hop (hT.rch i u hu h0) ⟨k, x, hx, he, rfl⟩
    · rw [List.getElem?_set_ne (Ne.symm e)] at hq
      exact hT.rch q v hq hv
  · by_cases e : a = (j : Int)
    · subst e
      have hg := gI_get hw
      have h2 := gI_self (v := over l (k : Int) x u) (out := out) (i := (j : Int)) (by omega) (by omega)
      have h1 := hT.top
      rw [hg] at h1
      simp only [Int.toNat_natCast] at h2
      rw [h2]
      omega
    · have h2 := gI_ne (out := out) (i := (j : Int)) (j := a) (v := over l (k : Int) x u) (by omega) ha (fun q => e q.symm)
      simp only [Int.toNat_natCast] at h2
      rw [h2]; exact hT.top
  · simp only [cnt] at *
    rw [if_pos (by omega : 0 ≤ over l (k : Int) x u)] at hcnt
    rcases List.mem_or_eq_of_mem_set hv with hv | rfl
    · have := hB.le v hv
      simp only [cnt] at this
      split at hcnt <;> omega
    · split at hcnt <;> omega
  · simp only [potO]
    rw [if_neg (by omega : ¬ over l (k : Int) x u < 0)] at hpot
    have hlen := hT.len
    split at hpot <;> omega

/-! ### The first way: all links are gone over again and again until nothing changes -/
def end1 (x : LinkD) (e : Nat) : Int := if e = 0 then x.a else x.b
def end2 (x : LinkD) (e : Nat) : Int := if e = 0 then x.b else x.a
abbrev Half (l : List FogD) (out : List Int) (k : Nat) (x : LinkD) (e : Nat) : Prop := 0 ≤ gI out (end1 x e) → 0 ≤ gI out (end2 x e) ∧ gI out (end2 x e) ≤ over l (k : Int) x (gI out (end1 x e))
theorem half_both {l : List FogD} {out : List Int} {k : Nat} {x : LinkD} (h : ∀ e, e < 2 → Half l out k x e) : LinkDone l out k x := by
  have h0 := h 0 (by omega)
  have h1 := h 1 (by omega)
  simp only [Half, end1, end2] at h0 h1
  exact ⟨h0, h1⟩
theorem done_snoc {n : NetP} {l : List FogD} {out : List Int} {m : Nat} {x : LinkD} (h : DoneTo n l out m) (hx : n.links[m]? = some x) (hd : LinkDone l out m x) : DoneTo n l out (m + 1) := by
  intro k y hk hy
  by_cases e : k = m
  · subst e; rw [hx] at hy; obtain rfl := Option.some.inj hy; exact hd
  · exact h k y (by omega) hy
/-- what holds on the way; p0: the bettering left when this round began -/
structure BF (n : NetP) (l : List FogD) (a t : Int) (out : List Int) (grown : Bool) (k p0 : Nat) : Prop where
  tms : Tms n l a t out
  bnd : Bnd out
  done : grown = false → DoneTo n l out k
  pot : potO out + (if grown = true then 1 else 0) ≤ p0
structure BFh (n : NetP) (l : List FogD) (a t : Int) (out : List Int) (grown : Bool) (k p0 : Nat) (x : LinkD) (e : Nat) : Prop where
  bf : BF n l a t out grown k p0
  half : grown = false → ∀ e', e' < e → Half l out k x e'
theorem BFh.start {n : NetP} {l : List FogD} {a t : Int} {out : List Int} {grown : Bool} {k p0 : Nat} {x : LinkD} (h : BF n l a t out grown k p0) : BFh n l a t out grown k p0 x 0 := ⟨h, fun _ e' he => by omega⟩
theorem BFh.next {n : NetP} {l : List FogD} {a t : Int} {out : List Int} {grown : Bool} {k p0 e : Nat} {x : LinkD} (h : BFh n l a t out grown k p0 x e) (hh : Half l out k x e) : BFh n l a t out grown k p0 x (e + 1) :=
  ⟨h.bf, fun hg e' he => by
    by_cases q : e' = e
    · subst q; exact hh
    · exact h.half hg e' (by omega)⟩
theorem BFh.ends {n : NetP} {l : List FogD} {a t : Int} {out : List Int} {grown : Bool} {k p0 e : Nat} {x : LinkD} (h : BFh n l a t out grown k p0 x e) (he : 2 ≤ e) (hx : n.links[k]? = some x) : BF n l a t out grown (k + 1) p0 :=
  ⟨h.bf.tms, h.bf.bnd, fun hg => done_snoc (h.bf.done hg) hx (half_both fun e' h' => h.half hg e' (by omega)), h.bf.pot⟩
theorem BFh.set {n : NetP} {l : List FogD} {a t : Int} {m : Nat} {out : List Int} {grown : Bool} {k p0 e : Nat} {x : LinkD} (hf : FogsOk m l) (hn : NetOk n) (ha : 0 ≤ a) (h : BFh n l a t out grown k p0 x e) (hx : n.links[k]? = some x)
    {i j : Nat} {u w : Int} (hi : end1 x e = (i : Int)) (hj : end2 x e = (j : Int)) (hu : out[i]? = some u) (h0 : 0 ≤ u) (hw : out[j]? = some w) (hb : w < 0 ∨ over l (k : Int) x u < w) : BFh n l a t (out.set j (over l (k : Int) x u)) true k p0 x (e + 1) := by
  have hok := hn.at hx
  have he : (x.a = (i : Int) ∧ x.b = (j : Int)) ∨ (x.b = (i : Int) ∧ x.a = (j : Int)) := by
    unfold end1 at hi; unfold end2 at hj
    split at hi
    · rw [if_pos (by assumption)] at hj; exact .inl ⟨hi, hj⟩
    · rw [if_neg (by assumption)] at hj; exact .inr ⟨hi, hj⟩
  obtain ⟨b1, b2, b3⟩ := better hf h.bf.tms h.bf.bnd hn.t2 ha hx ⟨hok.2.2.2.1, hok.2.2.2.2⟩ he hu h0 hw hb
  have hp := h.bf.pot
  refine ⟨⟨b1, b2, fun q => (by cases q), ?_⟩, fun q => (by cases q)⟩
  rw [if_pos rfl]
  split at hp <;> omega
theorem BF.arr {n : NetP} {l : List FogD} {a t : Int} {out : List Int} {k p0 : Nat} (h : BF n l a t out false k p0) (hk : n.links.length ≤ k) : Arr n l a t out := ⟨h.tms, fun j x hj hx => h.done rfl j x (by omega) hx⟩
theorem BF.again {n : NetP} {l : List FogD} {a t : Int} {out : List Int} {k p0 : Nat} (h : BF n l a t out true k p0) : BF n l a t out false 0 (potO out) ∧ potO out < p0 := by
  have := h.pot
  rw [if_pos rfl] at this
  exact ⟨⟨h.tms, h.bnd, fun _ k x hk => by omega, by simp⟩, by omega⟩
/-- times at the start -/
theorem arr_start {n : NetP} {l : List FogD} {a t : Int} (ha : 0 ≤ a ∧ a ≤ (n.towers.length : Int) - 1) (ht : 0 ≤ t ∧ t ≤ 10000) : Tms n l a t ((List.replicate n.towers.length (-1)).set a.toNat t) ∧ Bnd ((List.replicate n.towers.length (-1)).set a.toNat t) := by
  have hlt : a.toNat < n.towers.length := by omega
  have hg := gI_self (v := t) (out := List.replicate n.towers.length (-1)) ha.1 (by simp; omega)
  refine ⟨⟨by simp, fun v hv => ?_, fun i v hi hv => ?_, by rw [hg]; omega⟩, ⟨fun v hv => ?_⟩⟩
  · rcases List.mem_or_eq_of_mem_set hv with hv | rfl
    · exact .inl (List.mem_replicate.1 hv).2
    · exact .inr ht.1
  · by_cases e : i = a.toNat
    · subst e
      rw [List.getElem?_set_self (by simpa using hlt)] at hi
      obtain rfl := Option.some.inj hi
      rw [show ((a.toNat : Nat) : Int) = a by omega]
      exact .start
    · rw [List.getElem?_set_ne (Ne.symm e)] at hi
      have := (List.mem_replicate.1 (List.mem_of_getElem? hi)).2
      omega
  · have h1 := sum_set (f := fun v : Int => if 0 ≤ v then 1 else 0) (l := List.replicate n.towers.length (-1)) (i := a.toNat) (v := -1) t (by simp [hlt])
    have h2 : 1 ≤ cnt ((List.replicate n.towers.length (-1)).set a.toNat t) := by
      simp only [cnt]
      rw [if_pos ht.1] at h1
      simp only [Int.reduceNeg, Int.neg_nonneg, Int.reduceLE, ↓reduceIte, Nat.add_zero] at h1
      omega
    rcases List.mem_or_eq_of_mem_set hv with hv | rfl
    · have := (List.mem_replicate.1 hv).2; omega
    · omega

/-! ### The second way: tower by tower, the earliest first -/
abbrev Closed (n : NetP) (l : List FogD) (out : List Int) (i : Int) (m : Nat) : Prop := ∀ (k : Nat) (x : LinkD), k < m → n.links[k]? = some x →
  (x.a = i → 0 ≤ gI out x.b ∧ gI out x.b ≤ over l (k : Int) x (gI out x.a)) ∧ (x.b = i → 0 ≤ gI out x.a ∧ gI out x.a ≤ over l (k : Int) x (gI out x.b))
structure Dij (n : NetP) (l : List FogD) (a t : Int) (out : List Int) (done : List Bool) : Prop where
  tms : Tms n l a t out
  bnd : Bnd out
  len : done.length = n.towers.length
  cl : ∀ (i : Nat), done[i]? = some true → 0 ≤ gI out (i : Int) ∧ Closed n l out (i : Int) n.links.length
  ord : ∀ (i j : Nat), done[i]? = some true → done[j]? = some false → 0 ≤ gI out (j : Int) → gI out (i : Int) ≤ gI out (j : Int)
/-- the least one not yet done among the first k -/
structure Least (out : List Int) (done : List Bool) (k : Nat) (i : Int) : Prop where
  no : i < 0 → ∀ j, j < k → done[j]? = some false → gI out (j : Int) < 0
  yes : 0 ≤ i → i < k ∧ done[i.toNat]? = some false ∧ 0 ≤ gI out i ∧ ∀ j, j < k → done[j]? = some false → 0 ≤ gI out (j : Int) → gI out i ≤ gI out (j : Int)
theorem Least.start (out : List Int) (done : List Bool) : Least out done 0 (-1) := ⟨fun _ j hj => by omega, fun h => by omega⟩
theorem Least.keep {out : List Int} {done : List Bool} {k : Nat} {i : Int} (h : Least out done k i) (hk : done[k]? = some true ∨ gI out (k : Int) < 0 ∨ (0 ≤ i ∧ gI out i ≤ gI out (k : Int))) : Least out done (k + 1) i := by
  refine ⟨fun hi j hj hd => ?_, fun hi => ?_⟩
  · by_cases e : j = k
    · subst e
      rcases hk with hk | hk | hk
      · rw [hk] at hd; cases hd
      · exact hk
      · omega
    · exact h.no hi j (by omega) hd
  · obtain ⟨h1, h2, h3, h4⟩ := h.yes hi
    refine ⟨by omega, h2, h3, fun j hj hd h0 => ?_⟩
    by_cases e : j = k
    · subst e
      rcases hk with hk | hk | hk
      · rw [hk] at hd; cases hd
      · omega
      · exact hk.2
    · exact h4 j (by omega) hd h0
theorem Least.take {out : List Int} {done : List Bool} {k : Nat} {i : Int} (h : Least out done k i) (hd : done[k]? = some false) (h0 : 0 ≤ gI out (k : Int)) (hl : i < 0 ∨ gI out (k : Int) < gI out i) : Least out done (k + 1) (k : Int) := by
  refine ⟨fun hi => by omega, fun _ => ⟨by omega, by simpa using hd, h0, fun j hj hdj hj0 => ?_⟩⟩
  by_cases e : j = k
  · subst e; exact Int.le_refl _
  · rcases hl with hl | hl
    · have := h.no hl j (by omega) hdj; omega
    · by_cases hi : i < 0
      · have := h.no hi j (by omega) hdj; omega
      · have := (h.yes (by omega)).2.2.2 j (by omega) hdj hj0; omega
/-- tower i is being done: its first m links have been looked at -/
structure DijR (n : NetP) (l : List FogD) (a t : Int) (out : List Int) (done : List Bool) (i : Nat) (u : Int) (m : Nat) : Prop where
  tms : Tms n l a t out
  bnd : Bnd out
  len : done.length = n.towers.length
  at_ : out[i]? = some u
  pos : 0 ≤ u
  isd : done[i]? = some true
  cl : ∀ (j : Nat), done[j]? = some true → j ≠ i → 0 ≤ gI out (j : Int) ∧ Closed n l out (j : Int) n.links.length
  cli : Closed n l out (i : Int) m
  below : ∀ (j : Nat), done[j]? = some true → gI out (j : Int) ≤ u
  above : ∀ (j : Nat), done[j]? = some false → 0 ≤ gI out (j : Int) → u ≤ gI out (j : Int)
theorem set_bool {done : List Bool} {i j : Nat} {b : Bool} (h : (done.set i true)[j]? = some b) : (j = i ∧ b = true) ∨ (j ≠ i ∧ done[j]? = some b) := by
  by_cases e : j = i
  · subst e
    have hj : j < done.length := by
      have := (List.getElem?_eq_some_iff.1 h).1
      simpa using this
    rw [List.getElem?_set_self hj] at h
    exact .inl ⟨rfl, (Option.some.inj h).symm⟩
  · rw [List.getElem?_set_ne (Ne.symm e)] at h
    exact .inr ⟨e, h⟩
theorem Dij.pick {n : NetP} {l : List FogD} {a t : Int} {out : List Int} {done : List Bool} (h : Dij n l a t out done) {k : Nat} (hk : n.towers.length ≤ k) {i : Nat} {u : Int} (hl : Least out done k (i : Int)) (hu : out[i]? = some u) : DijR n l a t out (done.set i true) i u 0 := by
  obtain ⟨h1, h2, h3, h4⟩ := hl.yes (by omega)
  simp only [Int.toNat_natCast] at h2
  rw [gI_get hu] at h3 h4
  have hi : i < done.length := (List.getElem?_eq_some_iff.1 h2).1
  refine ⟨h.tms, h.bnd, by simp [h.len], hu, h3, by rw [List.getElem?_set_self hi], fun j hj hne => ?_, fun k x hk => by omega, fun j hj => ?_, fun j hj h0 => ?_⟩
  · rcases set_bool hj with ⟨e, _⟩ | ⟨_, hj⟩
    · exact absurd e hne
    · exact h.cl j hj
  · rcases set_bool hj with ⟨e, _⟩ | ⟨_, hj⟩
    · subst e; rw [gI_get hu]; exact Int.le_refl _
    · have := h.ord j i hj h2 (by rw [gI_get hu]; exact h3)
      rw [gI_get hu] at this; exact this
  · rcases set_bool hj with ⟨_, e⟩ | ⟨_, hj⟩
    · cases e
    · have hjl : j < done.length := (List.getElem?_eq_some_iff.1 hj).1
      exact h4 j (by have := h.len; omega) hj h0
theorem DijR.ends {n : NetP} {l : List FogD} {a t : Int} {out : List Int} {done : List Bool} {i : Nat} {u : Int} {m : Nat} (h : DijR n l a t out done i u m) (hm : n.links.length ≤ m) : Dij n l a t out done := by
  refine ⟨h.tms, h.bnd, h.len, fun j hj => ?_, fun j j' hj hj' h0 => ?_⟩
  · by_cases e : j = i
    · subst e
      exact ⟨by rw [gI_get h.at_]; exact h.pos, fun k x hk hx => h.cli k x (by omega) hx⟩
    · exact h.cl j hj e
  · exact Int.le_trans (h.below j hj) (h.above j' hj' h0)
/-- the other end of a link, or -1 -/
def othr (x : LinkD) (i : Int) : Int := if i = x.a then x.b else if i = x.b then x.a else -1
theorem othr_ends {m : Nat} {x : LinkD} (h : LinkOk m x) {i j : Nat} (ho : othr x (i : Int) = (j : Int)) : (x.a = (i : Int) ∧ x.b = (j : Int)) ∨ (x.b = (i : Int) ∧ x.a = (j : Int)) := by
  unfold othr at ho
  split at ho
  · left; omega
  · split at ho
    · right; omega
    · omega
theorem othr_bd {m : Nat} {x : LinkD} (h : LinkOk m x) (i : Int) : -1 ≤ othr x i ∧ othr x i < (m : Int) := by
  unfold othr; split
  · omega
  · split <;> omega
theorem closed_snoc {n : NetP} {l : List FogD} {out : List Int} {i : Int} {m : Nat} {x : LinkD} (h : Closed n l out i m) (hx : n.links[m]? = some x) (hc : (x.a = i → 0 ≤ gI out x.b ∧ gI out x.b ≤ over l (m : Int) x (gI out x.a)) ∧ (x.b = i → 0 ≤ gI out x.a ∧ gI out x.a ≤ over l (m : Int) x (gI out x.b))) : Closed n l out i (m + 1) := by
  intro k y hk hy
  by_cases e : k = m
  · subst e; rw [hx] at hy; obtain rfl := Option.some.inj hy; exact hc
  · exact h k y (by omega) hy
/-- the link does not end here -/
theorem DijR.skip {n : NetP} {l : List FogD} {a t : Int} {out : List Int} {done : List Bool} {i : Nat} {u : Int} {m : Nat} {x : LinkD} (hn : NetOk n) (h : DijR n l a t out done i u m) (hx : n.links[m]? = some x) (ho : othr x (i : Int) < 0) : DijR n l a t out done i u (m + 1) := by
  have hok := hn.at hx
  refine { h with cli := closed_snoc h.cli hx ?_ }
  unfold othr at ho
  split at ho
  · omega
  · split at ho
    · omega
    · exact ⟨fun e => by omega, fun e => by omega⟩
theorem DijR.keep {n : NetP} {l : List FogD} {a t : Int} {out : List Int} {done : List Bool} {i : Nat} {u : Int} {m : Nat} {x : LinkD} (hn : NetOk n) (h : DijR n l a t out done i u m) (hx : n.links[m]? = some x) {j : Nat} {w : Int} (ho : othr x (i : Int) = (j : Int)) (hw : out[j]? = some w) (h0 : 0 ≤ w) (hb : w ≤ over l (m : Int) x u) : DijR n l a t out done i u (m + 1) := by
  have hok := hn.at hx
  have he := othr_ends hok ho
  refine { h with cli := closed_snoc h.cli hx ?_ }
  have gi := gI_get h.at_
  have gj := gI_get hw
  rcases he with ⟨e1, e2⟩ | ⟨e1, e2⟩
  · refine ⟨fun _ => ?_, fun e => by omega⟩
    rw [e1, e2, gi, gj]; exact ⟨h0, hb⟩
  · refine ⟨fun e => by omega, fun _ => ?_⟩
    rw [e1, e2, gi, gj]; exact ⟨h0, hb⟩
theorem DijR.set {n : NetP} {l : List FogD} {a t : Int} {q : Nat} {out : List Int} {done : List Bool} {i : Nat} {u : Int} {m : Nat} {x : LinkD} (hf : FogsOk q l) (hn : NetOk n) (ha : 0 ≤ a) (h : DijR n l a t out done i u m) (hx : n.links[m]? = some x) {j : Nat} {w : Int} (ho : othr x (i : Int) = (j : Int)) (hw : out[j]? = some w) (hb : w < 0 ∨ over l (m : Int) x u < w) : DijR n l a t (out.set j (over l (m : Int) x u)) done i u (m + 1) := by
  have hok := hn.at hx
  have he := othr_ends hok ho
  have hgt := over_gt l (m : Int) u hok.2.2.2.1
  obtain ⟨b1, b2, b3⟩ := better hf h.tms h.bnd hn.t2 ha hx ⟨hok.2.2.2.1, hok.2.2.2.2⟩ he h.at_ h.pos hw hb
  have hij : i ≠ j := by omega
  have hjl : j < out.length := (List.getElem?_eq_some_iff.1 hw).1
  have hpos := h.pos
  have hself : gI (out.set j (over l (m : Int) x u)) (j : Int) = over l (m : Int) x u := by
    have := gI_self (out := out) (i := (j : Int)) (v := over l (m : Int) x u) (by omega) (by omega)
    simpa using this
  have hother : ∀ c : Int, 0 ≤ c → c ≠ (j : Int) → gI (out.set j (over l (m : Int) x u)) c = gI out c := by
    intro c hc hne
    have := gI_ne (out := out) (i := (j : Int)) (j := c) (v := over l (m : Int) x u) (by omega) hc (fun e => hne e.symm)
    simpa using this
  have hjd : done[j]? ≠ some true := by
    intro hc
    have h1 := h.below j hc
    have h2 := (h.cl j hc (fun e => hij e.symm)).1
    rw [gI_get hw] at h1 h2
    omega
  have hle : ∀ c : Int, 0 ≤ c → 0 ≤ gI out c → 0 ≤ gI (out.set j (over l (m : Int) x u)) c ∧ gI (out.set j (over l (m : Int) x u)) c ≤ gI out c := by
    intro c hc h0
    by_cases e : c = (j : Int)
    · subst e; rw [hself]; rw [gI_get hw] at h0 ⊢; omega
    · rw [hother c hc e]; exact ⟨h0, Int.le_refl _⟩
  have hcl : ∀ (d : Nat) (m' : Nat), d ≠ j → Closed n l out (d : Int) m' → Closed n l (out.set j (over l (m : Int) x u)) (d : Int) m' := by
    intro d m' hd hc k y hk hy
    obtain ⟨c1, c2⟩ := hc k y hk hy
    have hyo := hn.at hy
    refine ⟨fun e => ?_, fun e => ?_⟩
    · obtain ⟨g1, g2⟩ := c1 e
      have := hle y.b (by omega) g1
      rw [hother y.a (by omega) (by omega)]
      exact ⟨this.1, Int.le_trans this.2 g2⟩
    · obtain ⟨g1, g2⟩ := c2 e
      have := hle y.a (by omega) g1
      rw [hother y.b (by omega) (by omega)]
      exact ⟨this.1, Int.le_trans this.2 g2⟩
  have hiu : gI (out.set j (over l (m : Int) x u)) (i : Int) = u := by rw [hother i (by omega) (by omega), gI_get h.at_]
  refine ⟨b1, b2, h.len, by rw [List.getElem?_set_ne (Ne.symm hij)]; exact h.at_, h.pos, h.isd, fun d hd hne => ?_, ?_, fun d hd => ?_, fun d hd h0 => ?_⟩
  · have hdj : d ≠ j := fun e => hjd (e ▸ hd)
    obtain ⟨g1, g2⟩ := h.cl d hd hne
    exact ⟨(hle d (by omega) g1).1, hcl d _ hdj g2⟩
  · refine closed_snoc (hcl i m hij h.cli) hx ?_
    rcases he with ⟨e1, e2⟩ | ⟨e1, e2⟩
    · refine ⟨fun _ => ?_, fun e => by omega⟩
      rw [e1, e2, hiu, hself]; omega
    · refine ⟨fun e => by omega, fun _ => ?_⟩
      rw [e1, e2, hiu, hself]; omega
  · have hdj : d ≠ j := fun e => hjd (e ▸ hd)
    rw [hother d (by omega) (by omega)]; exact h.below d hd
  · by_cases e : d = j
    · subst e; rw [hself]; omega
    · rw [hother d (by omega) (by omega)] at h0 ⊢; exact h.above d hd h0
theorem Dij.arr {n : NetP} {l : List FogD} {a t : Int} {out : List Int} {done : List Bool} (hn : NetOk n) (h : Dij n l a t out done) {k : Nat} (hk : n.towers.length ≤ k) {i : Int} (hl : Least out done k i) (hi : i < 0) : Arr n l a t out := by
  refine ⟨h.tms, fun k' x hk' hx => ?_⟩
  have hok := hn.at hx
  have hd : ∀ c : Int, 0 ≤ c → c < (n.towers.length : Int) → 0 ≤ gI out c → done[c.toNat]? = some true := by
    intro c h0 h1 h2
    have hcl : c.toNat < done.length := by have := h.len; omega
    cases hb : done[c.toNat] with
    | true => rw [List.getElem?_eq_getElem hcl, hb]
    | false =>
      have := hl.no hi c.toNat (by omega) (by rw [List.getElem?_eq_getElem hcl, hb])
      rw [show ((c.toNat : Nat) : Int) = c by omega] at this
      omega
  refine ⟨fun h0 => ?_, fun h0 => ?_⟩
  · have := (h.cl _ (hd x.a (by omega) (by omega) h0)).2 k' x hk' hx
    exact this.1 (by omega)
  · have := (h.cl _ (hd x.b (by omega) (by omega) h0)).2 k' x hk' hx
    exact this.2 (by omega)
/-- how many are not yet done -/
def undone (done : List Bool) : Nat := (done.map fun b => if b = true then 0 else 1).sum
theorem undone_set : ∀ {done : List Bool} {i : Nat}, done[i]? = some false → undone (done.set i true) < undone done
  | [], i, h => by simp at h
  | b :: l, 0, h => by simp at h; subst h; simp [undone]
  | b :: l, i + 1, h => by
    have := undone_set (done := l) (i := i) (by simpa using h)
    simp only [undone, List.set_cons_succ, List.map_cons, List.sum_cons] at *; omega
theorem Dij.start {n : NetP} {l : List FogD} {a t : Int} {out : List Int} (hT : Tms n l a t out) (hB : Bnd out) : Dij n l a t out (List.replicate n.towers.length false) := by
  have hf : ∀ (i : Nat), (List.replicate n.towers.length false)[i]? = some true → False := by
    intro i hi
    have := (List.mem_replicate.1 (List.mem_of_getElem? hi)).2
    cases this
  exact ⟨hT, hB, by simp, fun i hi => (hf i hi).elim, fun i j hi => (hf i hi).elim⟩
end Go.Proofs.Ythagdkmalchhgaa
