/- Stable sorting of lists by a pair of numbers: plain laws of exchanging, turning and merging in place. Condition: none. -/
import Derived.Test.YtjmcijcdncgaiaaLib1
namespace Go.Vc
set_option linter.all false
abbrev K2 := Int × Int
def ltK (a b : K2) : Prop := a.1 < b.1 ∨ (a.1 = b.1 ∧ a.2 < b.2)
instance (a b : K2) : Decidable (ltK a b) := inferInstanceAs (Decidable (_ ∨ _))
theorem ltK_irr {a : K2} : ¬ ltK a a := by unfold ltK; omega
theorem ltK_tr {a b c : K2} (h : ltK a b) (k : ltK b c) : ltK a c := by unfold ltK at *; omega
theorem ltK_of {a b c : K2} (h : ltK a b) (k : ¬ ltK c b) : ltK a c := by unfold ltK at *; omega
theorem ltK_of2 {a b c : K2} (h : ltK a b) (k : ¬ ltK a c) : ltK c b := by unfold ltK at *; omega
theorem nlt_tr {a b c : K2} (h : ¬ ltK a b) (k : ¬ ltK b c) : ¬ ltK a c := by unfold ltK at *; omega
theorem ltK_eq {a b : K2} (h : ¬ ltK a b) (k : ¬ ltK b a) : a = b := by
  unfold ltK at *; exact Prod.ext (by omega) (by omega)
section
variable {α : Type} (key : α → K2)
/-- in order from a on, below b -/
def SoOn (d : List α) (a b : Nat) : Prop := ∀ i j, a ≤ i → i < j → j < b → ∀ x y, d[i]? = some x → d[j]? = some y → ¬ ltK (key y) (key x)
/-- the same elements, those of one key in the same order -/
structure Like (d d' : List α) (a b : Nat) : Prop where
  len : d'.length = d.length
  out : ∀ i, i < a ∨ b ≤ i → d'[i]? = d[i]?
  cls : ∀ k : K2, d'.filter (fun x => decide (key x = k)) = d.filter (fun x => decide (key x = k))
  from_ : ∀ i, a ≤ i → i < b → ∃ j, a ≤ j ∧ j < b ∧ d'[i]? = d[j]?
variable {key}
theorem SoOn.sub {d : List α} {a b a' b' : Nat} (h : SoOn key d a b) (h1 : a ≤ a') (h2 : b' ≤ b) : SoOn key d a' b' := fun i j hi hij hj => h i j (by omega) hij (by omega)
theorem SoOn.one {d : List α} {a b : Nat} (h : b ≤ a + 1) : SoOn key d a b := fun i j hi hij hj => by omega
theorem SoOn.le {d : List α} {a b : Nat} (h : SoOn key d a b) {i j : Nat} (hi : a ≤ i) (hij : i ≤ j) (hj : j < b) {x y : α} (hx : d[i]? = some x) (hy : d[j]? = some y) : ¬ ltK (key y) (key x) := by
  by_cases e : i = j
  · subst e; rw [hx] at hy; obtain rfl := Option.some.inj hy; exact ltK_irr
  · exact h i j hi (by omega) hj x y hx hy
theorem SoOn.same {d d' : List α} {a b a' b' : Nat} (h : SoOn key d a b) (hs : ∀ i, a' ≤ i → i < b' → d'[i]? = d[i]?) (h1 : a ≤ a') (h2 : b' ≤ b) : SoOn key d' a' b' := fun i j hi hij hj x y hx hy =>
  h i j (by omega) hij (by omega) x y (by rw [← hs i hi (by omega)]; exact hx) (by rw [← hs j (by omega) hj]; exact hy)
theorem Like.refl (d : List α) (a b : Nat) : Like key d d a b := ⟨rfl, fun _ _ => rfl, fun _ => rfl, fun i h1 h2 => ⟨i, h1, h2, rfl⟩⟩
theorem Like.trans {d d' d'' : List α} {a b : Nat} (h : Like key d d' a b) (k : Like key d' d'' a b) : Like key d d'' a b :=
  ⟨k.len.trans h.len, fun i hi => (k.out i hi).trans (h.out i hi), fun c => (k.cls c).trans (h.cls c), fun i h1 h2 => by
    obtain ⟨j, j1, j2, e⟩ := k.from_ i h1 h2
    obtain ⟨l, l1, l2, e2⟩ := h.from_ j j1 j2
    exact ⟨l, l1, l2, e.trans e2⟩⟩
theorem Like.wide {d d' : List α} {a b a' b' : Nat} (h : Like key d d' a b) (h1 : a' ≤ a) (h2 : b ≤ b') : Like key d d' a' b' :=
  ⟨h.len, fun i hi => h.out i (by omega), h.cls, fun i i1 i2 => by
    by_cases c : a ≤ i ∧ i < b
    · obtain ⟨j, j1, j2, e⟩ := h.from_ i c.1 c.2
      exact ⟨j, by omega, by omega, e⟩
    · exact ⟨i, i1, i2, h.out i (by omega)⟩⟩
/-- turning two neighbouring runs -/
def rotL (d : List α) (s m e : Nat) : List α := d.take s ++ ((d.drop m).take (e - m) ++ (d.drop s).take (m - s)) ++ d.drop e
theorem rotL_len {d : List α} {s m e : Nat} (h1 : s ≤ m) (h2 : m ≤ e) (h3 : e ≤ d.length) : (rotL d s m e).length = d.length := by
  simp [rotL]; omega
theorem split3 {d : List α} {s m e : Nat} (h1 : s ≤ m) (h2 : m ≤ e) : d = d.take s ++ ((d.drop s).take (m - s) ++ (d.drop m).take (e - m)) ++ d.drop e := by
  have e1 : (d.drop s).take (m - s) ++ (d.drop m).take (e - m) = (d.drop s).take (e - s) := by
    have : e - s = (m - s) + (e - m) := by omega
    rw [this, List.take_add, List.drop_drop]
    have : s + (m - s) = m := by omega
    rw [this]
  rw [e1, List.append_assoc]
  have e2 : (d.drop s).take (e - s) ++ d.drop e = d.drop s := by
    have : d.drop e = (d.drop s).drop (e - s) := by rw [List.drop_drop]; congr 1; omega
    rw [this, List.take_append_drop]
  rw [e2, List.take_append_drop]
theorem rotL_get {d : List α} {s m e : Nat} (h1 : s ≤ m) (h2 : m ≤ e) (h3 : e ≤ d.length) (i : Nat) :
    (rotL d s m e)[i]? = if i < s then d[i]? else if i < s + (e - m) then d[m + (i - s)]? else if i < e then d[i - (e - m)]? else d[i]? := by
  have l1 : (d.take s).length = s := by simp; omega
  have l2 : ((d.drop m).take (e - m)).length = e - m := by simp; omega
  have l3 : ((d.drop s).take (m - s)).length = m - s := by simp; omega
  unfold rotL
  by_cases c1 : i < s
  · rw [if_pos c1, List.getElem?_append_left (by simp [l1, l2, l3]; omega), List.getElem?_append_left (by omega), List.getElem?_take_of_lt c1]
  · rw [if_neg c1]
    by_cases c2 : i < s + (e - m)
    · rw [if_pos c2, List.getElem?_append_left (by simp [l1, l2, l3]; omega), List.getElem?_append_right (by omega), l1, List.getElem?_append_left (by omega), List.getElem?_take_of_lt (by omega), List.getElem?_drop]
    · rw [if_neg c2]
      by_cases c3 : i < e
      · rw [if_pos c3, List.getElem?_append_left (by simp [l1, l2, l3]; omega), List.getElem?_append_right (by omega), l1, List.getElem?_append_right (by omega), l2, List.getElem?_take_of_lt (by omega), List.getElem?_drop]
        congr 1; omega
      · rw [if_neg c3, List.getElem?_append_right (by simp [l1, l2, l3]; omega), List.getElem?_drop]
        congr 1
        simp only [List.length_append, l1, l2, l3]; omega
theorem filter_swap {X Y : List α} {k : K2} (h : ∀ x ∈ X, ∀ y ∈ Y, ltK (key y) (key x)) : (Y ++ X).filter (fun x => decide (key x = k)) = (X ++ Y).filter (fun x => decide (key x = k)) := by
  rw [List.filter_append, List.filter_append]
  cases e1 : X.filter (fun x => decide (key x = k)) with
  | nil => simp
  | cons a l =>
    cases e2 : Y.filter (fun x => decide (key x = k)) with
    | nil => simp
    | cons b r =>
      exfalso
      have ha : a ∈ X.filter (fun x => decide (key x = k)) := by rw [e1]; simp
      have hb : b ∈ Y.filter (fun x => decide (key x = k)) := by rw [e2]; simp
      simp only [List.mem_filter, decide_eq_true_eq] at ha hb
      have := h a ha.1 b hb.1
      rw [ha.2, hb.2] at this
      exact ltK_irr this
theorem mem_run {d : List α} {s m : Nat} {x : α} (h : x ∈ (d.drop s).take (m - s)) : ∃ i, s ≤ i ∧ i < m ∧ d[i]? = some x := by
  obtain ⟨j, hj, e⟩ := List.getElem_of_mem h
  have hj' : j < m - s := by simp at hj; omega
  refine ⟨s + j, by omega, by omega, ?_⟩
  have := List.getElem?_eq_getElem hj
  rw [e, List.getElem?_take_of_lt hj', List.getElem?_drop] at this
  exact this
theorem rotL_like {d : List α} {s m e : Nat} (h1 : s ≤ m) (h2 : m ≤ e) (h3 : e ≤ d.length) (h : ∀ i j x y, s ≤ i → i < m → m ≤ j → j < e → d[i]? = some x → d[j]? = some y → ltK (key y) (key x)) : Like key d (rotL d s m e) s e := by
  refine ⟨rotL_len h1 h2 h3, fun i hi => ?_, fun k => ?_, fun i i1 i2 => ?_⟩
  · rw [rotL_get h1 h2 h3]
    rcases hi with hi | hi
    · rw [if_pos hi]
    · rw [if_neg (by omega), if_neg (by omega), if_neg (by omega)]
  · have hs := split3 (d := d) h1 h2
    have hw := filter_swap (key := key) (X := (d.drop s).take (m - s)) (Y := (d.drop m).take (e - m)) (k := k) (fun x hx y hy => by
      obtain ⟨i, i1, i2, ei⟩ := mem_run hx
      obtain ⟨j, j1, j2, ej⟩ := mem_run hy
      exact h i j x y i1 i2 j1 j2 ei ej)
    have hf : (rotL d s m e).filter (fun x => decide (key x = k)) = (d.take s ++ ((d.drop s).take (m - s) ++ (d.drop m).take (e - m)) ++ d.drop e).filter (fun x => decide (key x = k)) := by
      unfold rotL
      simp only [List.filter_append] at hw ⊢
      rw [hw]
    rw [hf, ← hs]
  · rw [rotL_get h1 h2 h3, if_neg (by omega)]
    split
    · exact ⟨m + (i - s), by omega, by omega, rfl⟩
    · exact ⟨i - (e - m), by omega, by omega, by first | rfl | rw [if_pos i2]⟩
/-- both halves merged -/
theorem sym_join {d d1 d2 d3 : List α} {a m b s e c : Nat} (h1 : a ≤ s) (h2 : s ≤ m) (h3 : m ≤ e) (h4 : e ≤ b) (h5 : b ≤ d.length) (hc : c = s + (e - m))
    (hA : SoOn key d a m) (hB : SoOn key d m b)
    (hXY : ∀ x y, s < m → m < e → d[s]? = some x → d[e - 1]? = some y → ltK (key y) (key x))
    (hAB : ∀ x y, a < s → e < b → d[s - 1]? = some x → d[e]? = some y → ¬ ltK (key y) (key x))
    (k1 : d1 = rotL d s m e) (l2 : Like key d1 d2 a c) (s2 : SoOn key d2 a c) (l3 : Like key d2 d3 c b) (s3 : SoOn key d3 c b) : Like key d d3 a b ∧ SoOn key d3 a b := by
  have hlt : ∀ i j x y, s ≤ i → i < m → m ≤ j → j < e → d[i]? = some x → d[j]? = some y → ltK (key y) (key x) := by
    intro i j x y i1 i2 j1 j2 hx hy
    have hs' : s < d.length := by omega
    have he' : e - 1 < d.length := by omega
    have t0 := hXY _ _ (by omega) (by omega) (List.getElem?_eq_getElem hs') (List.getElem?_eq_getElem he')
    have t1 := hA.le h1 i1 i2 (List.getElem?_eq_getElem hs') hx
    have t2 := hB.le (i := j) (j := e - 1) j1 (by omega) (by omega) hy (List.getElem?_eq_getElem he')
    exact ltK_of2 (ltK_of t0 t1) t2
  have r := rotL_like h2 h3 (by omega) hlt
  rw [← k1] at r
  have L : Like key d d3 a b := ((r.wide h1 h4).trans (l2.wide (Nat.le_refl _) (by omega))).trans (l3.wide (by omega) (Nat.le_refl _))
  refine ⟨L, fun i j hi hij hj x y hx hy => ?_⟩
  by_cases cj : j < c
  · rw [l3.out i (by omega)] at hx
    rw [l3.out j (by omega)] at hy
    exact s2 i j hi hij cj x y hx hy
  by_cases ci : c ≤ i
  · exact s3 i j ci hij hj x y hx hy
  rw [l3.out i (by omega)] at hx
  obtain ⟨i', i1, i2, ei⟩ := l2.from_ i hi (by omega)
  obtain ⟨j', j1, j2, ej⟩ := l3.from_ j (by omega) hj
  rw [ei, k1, rotL_get h2 h3 (by omega)] at hx
  rw [ej, l2.out j' (by omega), k1, rotL_get h2 h3 (by omega), if_neg (by omega), if_neg (by omega)] at hy
  by_cases c1 : i' < s
  · rw [if_pos c1] at hx
    by_cases c2 : j' < e
    · rw [if_pos c2] at hy
      exact hA.le (by omega) (by omega) (by omega) hx hy
    · rw [if_neg c2] at hy
      have hs' : s - 1 < d.length := by omega
      have he' : e < d.length := by omega
      have t0 := hAB _ _ (by omega) (by omega) (List.getElem?_eq_getElem hs') (List.getElem?_eq_getElem he')
      have t1 := hA.le (i := i') (j := s - 1) (by omega) (by omega) (by omega) hx (List.getElem?_eq_getElem hs')
      have t2 := hB.le (i := e) (j := j') (by omega) (by omega) (by omega) (List.getElem?_eq_getElem he') hy
      exact nlt_tr t2 (nlt_tr t0 t1)
  · rw [if_neg c1, if_pos (by omega)] at hx
    by_cases c2 : j' < e
    · rw [if_pos c2] at hy
      have := hlt _ _ _ _ (by omega) (by omega) (by omega) (by omega) hy hx
      intro hc'
      exact ltK_irr (ltK_tr this hc')
    · rw [if_neg c2] at hy
      exact hB.le (by omega) (by omega) (by omega) hx hy
end
end Go.Vc
