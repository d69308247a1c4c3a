/- Stable sorting in place: exchanging runs, turning, putting in. Plain laws. Condition: none. -/
import Derived.Test.YtjmcijcdncgaiaaStab
namespace Go.Vc
set_option linter.all false
section
variable {α : Type}
def swp (o : List α) (i j : Nat) : List α := match o[i]?, o[j]? with | some x, some y => (o.set i y).set j x | _, _ => o
theorem swp_eq {o : List α} {i j : Nat} {x y : α} (hx : o[i]? = some x) (hy : o[j]? = some y) : (o.set i y).set j x = swp o i j := by rw [swp, hx, hy]
theorem swp_len {o : List α} {i j : Nat} : (swp o i j).length = o.length := by
  unfold swp; split <;> simp
theorem swp_get {o : List α} {i j t : Nat} (hi : i < o.length) (hj : j < o.length) : (swp o i j)[t]? = if t = j then o[i]? else if t = i then o[j]? else o[t]? := by
  rw [swp, List.getElem?_eq_getElem hi, List.getElem?_eq_getElem hj]
  simp only [List.getElem?_set, List.length_set]
  by_cases h1 : t = j
  · subst h1; simp [hj]
  · have h1' : ¬ j = t := fun h => h1 h.symm
    by_cases h2 : t = i
    · subst h2; simp [h1, h1', hi]
    · have h2' : ¬ i = t := fun h => h2 h.symm
      simp [h1, h1', h2, h2']
def swR (d : List α) (a b : Int) : Nat → List α
  | 0 => d
  | n + 1 => swp (swR d a b n) (a + (n : Int)).toNat (b + (n : Int)).toNat
theorem swR_len {d : List α} {a b : Int} (n : Nat) : (swR d a b n).length = d.length := by
  induction n with
  | zero => rfl
  | succ n ih => rw [swR, swp_len, ih]
theorem swR_get {d : List α} {a b : Int} (n : Nat) (h0 : 0 ≤ a) (h1 : a + (n : Int) ≤ b) (h2 : b + (n : Int) ≤ (d.length : Int)) (t : Nat) :
    (swR d a b n)[t]? = if a.toNat ≤ t ∧ t < a.toNat + n then d[b.toNat + (t - a.toNat)]? else if b.toNat ≤ t ∧ t < b.toNat + n then d[a.toNat + (t - b.toNat)]? else d[t]? := by
  induction n generalizing t with
  | zero => rw [swR, if_neg (by omega), if_neg (by omega)]
  | succ n ih =>
    have ih' := fun t => ih (by omega) (by omega) t
    rw [swR, swp_get (by rw [swR_len]; omega) (by rw [swR_len]; omega)]
    simp only [ih']
    repeat' split
    all_goals first | rfl | omega | (congr 1; omega)
theorem rotL_id {d : List α} {s m e : Nat} (h1 : s ≤ m) (h2 : m ≤ e) (h3 : e ≤ d.length) (h : s = m ∨ m = e) : rotL d s m e = d := by
  apply List.ext_getElem?
  intro t
  rw [rotL_get h1 h2 h3]
  rcases h with h | h
  · subst h
    split
    · rfl
    · split
      · congr 1; omega
      · split
        · omega
        · rfl
  · subst h
    split
    · rfl
    · split
      · omega
      · split
        · congr 1; omega
        · rfl
/-- one step of turning: the left run is the longer one -/
theorem rot_left {o : List α} {m i j : Int} (h0 : 0 ≤ m - i) (hj : 0 < j) (hij : j < i) (h1 : m + j ≤ (o.length : Int)) :
    rotL (swR o (m - i) m j.toNat) (m - (i - j)).toNat m.toNat (m + j).toNat = rotL o (m - i).toNat m.toNat (m + j).toNat := by
  apply List.ext_getElem?
  intro t
  have hl := swR_len (d := o) (a := m - i) (b := m) j.toNat
  rw [rotL_get (by omega) (by omega) (by omega), rotL_get (by omega) (by omega) (by omega)]
  have g := swR_get (d := o) (a := m - i) (b := m) j.toNat (by omega) (by omega) (by omega)
  simp only [g]
  repeat' split
  all_goals first | rfl | omega | (congr 1; omega)
theorem rot_right {o : List α} {m i j : Int} (h0 : 0 ≤ m - i) (hi : 0 < i) (hij : i < j) (h1 : m + j ≤ (o.length : Int)) :
    rotL (swR o (m - i) (m + j - i) i.toNat) (m - i).toNat m.toNat (m + (j - i)).toNat = rotL o (m - i).toNat m.toNat (m + j).toNat := by
  apply List.ext_getElem?
  intro t
  have hl := swR_len (d := o) (a := m - i) (b := m + j - i) i.toNat
  rw [rotL_get (by omega) (by omega) (by omega), rotL_get (by omega) (by omega) (by omega)]
  have g := swR_get (d := o) (a := m - i) (b := m + j - i) i.toNat (by omega) (by omega) (by omega)
  simp only [g]
  repeat' split
  all_goals first | rfl | omega | (congr 1; omega)
theorem rot_end {o : List α} {m i : Int} (h0 : 0 ≤ m - i) (hi : 0 < i) (h1 : m + i ≤ (o.length : Int)) :
    swR o (m - i) m i.toNat = rotL o (m - i).toNat m.toNat (m + i).toNat := by
  apply List.ext_getElem?
  intro t
  rw [rotL_get (by omega) (by omega) (by omega), swR_get (d := o) (a := m - i) (b := m) i.toNat (by omega) (by omega) (by omega)]
  repeat' split
  all_goals first | rfl | omega | (congr 1; omega)
/-- an element moved one place on -/
theorem rot_up {d : List α} {a e : Nat} (h1 : a + 1 ≤ e) (h2 : e < d.length) : swp (rotL d a (a + 1) e) (e - 1) e = rotL d a (a + 1) (e + 1) := by
  apply List.ext_getElem?
  intro t
  have hl := rotL_len (d := d) (s := a) (m := a + 1) (e := e) (by omega) h1 (by omega)
  rw [swp_get (by omega) (by omega), rotL_get (by omega) (by omega) (by omega), rotL_get (by omega) (by omega) (by omega), rotL_get (by omega) (by omega) (by omega), rotL_get (by omega) (by omega) (by omega)]
  repeat' split
  all_goals first | rfl | omega | (congr 1; omega)
theorem rot_down {d : List α} {s m : Nat} (h1 : s < m) (h2 : m < d.length) : swp (rotL d (s + 1) m (m + 1)) (s + 1) s = rotL d s m (m + 1) := by
  apply List.ext_getElem?
  intro t
  have hl := rotL_len (d := d) (s := s + 1) (m := m) (e := m + 1) (by omega) (by omega) (by omega)
  rw [swp_get (by omega) (by omega), rotL_get (by omega) (by omega) (by omega), rotL_get (by omega) (by omega) (by omega), rotL_get (by omega) (by omega) (by omega), rotL_get (by omega) (by omega) (by omega)]
  repeat' split
  all_goals first | rfl | omega | (congr 1; omega)
variable {key : α → K2}
/-- what is in order behind a turning -/
theorem so_rot1 {d : List α} {a b s m e : Nat} (h1 : s ≤ m) (h2 : m ≤ e) (h3 : e ≤ d.length) (hA : SoOn key d a b) (hb : s ≤ b) : SoOn key (rotL d s m e) a s :=
  hA.same (fun i _ hi => by rw [rotL_get h1 h2 h3, if_pos hi]) (Nat.le_refl _) hb
theorem so_rot2 {d : List α} {b s m e c : Nat} (h1 : s ≤ m) (h2 : m ≤ e) (h3 : e ≤ d.length) (hc : c = s + (e - m)) (hB : SoOn key d m b) (hb : e ≤ b) : SoOn key (rotL d s m e) s c := by
  intro i j hi hij hj x y hx hy
  rw [rotL_get h1 h2 h3, if_neg (by omega), if_pos (by omega)] at hx hy
  exact hB _ _ (by omega) (by omega) (by omega) x y hx hy
theorem so_rot3 {d : List α} {a s m e c : Nat} (h1 : s ≤ m) (h2 : m ≤ e) (h3 : e ≤ d.length) (hc : c = s + (e - m)) (hA : SoOn key d a m) (ha : a ≤ s) : SoOn key (rotL d s m e) c e := by
  intro i j hi hij hj x y hx hy
  rw [rotL_get h1 h2 h3, if_neg (by omega), if_neg (by omega), if_pos (by omega)] at hx hy
  exact hA _ _ (by omega) (by omega) (by omega) x y hx hy
theorem so_rot4 {d : List α} {b s m e : Nat} (h1 : s ≤ m) (h2 : m ≤ e) (h3 : e ≤ d.length) (hB : SoOn key d m b) : SoOn key (rotL d s m e) e b := by
  refine hB.same (fun i hi _ => ?_) h2 (Nat.le_refl _)
  rw [rotL_get h1 h2 h3, if_neg (by omega), if_neg (by omega), if_neg (by omega)]
theorem SoOn.glue {d : List α} {a c b : Nat} (h : SoOn key d a c) (k : SoOn key d c b) (hx : ∀ x y, a < c → c < b → d[c - 1]? = some x → d[c]? = some y → ¬ ltK (key y) (key x)) (hb : b ≤ d.length) : SoOn key d a b := by
  intro i j hi hij hj x y hx' hy'
  by_cases h1 : j < c
  · exact h i j hi hij h1 x y hx' hy'
  by_cases h2 : c ≤ i
  · exact k i j h2 hij hj x y hx' hy'
  have e1 : c - 1 < d.length := by omega
  have e2 : c < d.length := by omega
  have t0 := hx _ _ (by omega) (by omega) (List.getElem?_eq_getElem e1) (List.getElem?_eq_getElem e2)
  have t1 := h.le (i := i) (j := c - 1) hi (by omega) (by omega) hx' (List.getElem?_eq_getElem e1)
  have t2 := k.le (i := c) (j := j) (by omega) (by omega) hj (List.getElem?_eq_getElem e2) hy'
  exact nlt_tr t2 (nlt_tr t0 t1)
/-- the last one put in among the others -/
theorem put_last {d : List α} {a s m : Nat} (h1 : a ≤ s) (h2 : s ≤ m) (h3 : m < d.length) (hA : SoOn key d a m)
    (hX : ∀ x y, s < m → d[s]? = some x → d[m]? = some y → ltK (key y) (key x)) (hL : ∀ x y, a < s → d[s - 1]? = some x → d[m]? = some y → ¬ ltK (key y) (key x)) :
    Like key d (rotL d s m (m + 1)) a (m + 1) ∧ SoOn key (rotL d s m (m + 1)) a (m + 1) := by
  have hl := rotL_len (d := d) (s := s) (m := m) (e := m + 1) h2 (by omega) (by omega)
  have hB : SoOn key d m (m + 1) := SoOn.one (by omega)
  refine sym_join (d1 := rotL d s m (m + 1)) (d2 := rotL d s m (m + 1)) (c := s + 1) (m := m) (e := m + 1) h1 h2 (by omega) (Nat.le_refl _) (by omega) (by omega) hA hB (fun x y hs _ hx hy => hX x y hs hx (by simpa using hy)) (fun x y _ hb => by omega) rfl (Like.refl _ _ _) ?_ (Like.refl _ _ _) ?_
  · refine (so_rot1 h2 (by omega) (by omega) hA h2).glue (SoOn.one (by omega)) ?_ (by omega)
    intro x y ha _ hx hy
    rw [rotL_get h2 (by omega) (by omega), if_pos (by omega)] at hx
    rw [rotL_get h2 (by omega) (by omega), if_neg (by omega), if_pos (by omega)] at hy
    refine hL x y ha hx ?_
    rw [← hy]; congr 1; omega
  · exact so_rot3 h2 (by omega) (by omega) (by omega) hA h1
/-- the first one put in among the others -/
theorem put_first {d : List α} {a b e : Nat} (h1 : a + 1 ≤ e) (h2 : e ≤ b) (h3 : b ≤ d.length) (hB : SoOn key d (a + 1) b)
    (hX : ∀ x y, a + 1 < e → d[a]? = some x → d[e - 1]? = some y → ltK (key y) (key x)) (hR : ∀ x y, e < b → d[a]? = some x → d[e]? = some y → ¬ ltK (key y) (key x)) :
    Like key d (rotL d a (a + 1) e) a b ∧ SoOn key (rotL d a (a + 1) e) a b := by
  have hl := rotL_len (d := d) (s := a) (m := a + 1) (e := e) (by omega) h1 (by omega)
  have hA : SoOn key d a (a + 1) := SoOn.one (by omega)
  refine sym_join (d1 := rotL d a (a + 1) e) (d2 := rotL d a (a + 1) e) (c := a + (e - (a + 1))) (m := a + 1) (e := e) (Nat.le_refl _) (by omega) h1 h2 h3 rfl hA hB (fun x y _ he hx hy => hX x y he hx hy) (fun x y ha => by omega) rfl (Like.refl _ _ _) ?_ (Like.refl _ _ _) ?_
  · exact so_rot2 (by omega) h1 (by omega) rfl hB h2
  · refine (so_rot3 (by omega) h1 (by omega) rfl hA (Nat.le_refl _)).glue (so_rot4 (by omega) h1 (by omega) hB) ?_ (by omega)
    intro x y _ hb hx hy
    rw [rotL_get (by omega) h1 (by omega), if_neg (by omega), if_neg (by omega), if_pos (by omega)] at hx
    rw [rotL_get (by omega) h1 (by omega), if_neg (by omega), if_neg (by omega), if_neg (by omega)] at hy
    refine hR x y hb ?_ hy
    rw [← hx]; congr 1; omega
/-- a list in order is told by its classes -/
theorem so_unique {d d' : List α} (h : SoOn key d 0 d.length) (k : SoOn key d' 0 d'.length) (hc : ∀ c : K2, d'.filter (fun x => decide (key x = c)) = d.filter (fun x => decide (key x = c))) : d' = d := by
  induction d generalizing d' with
  | nil =>
    cases d' with
    | nil => rfl
    | cons y d' => have := hc (key y); simp at this
  | cons x d ih =>
    cases d' with
    | nil => have := hc (key x); simp at this
    | cons y d' =>
      have hy : y ∈ x :: d := by
        have : y ∈ (x :: d).filter (fun z => decide (key z = key y)) := by rw [← hc (key y)]; simp
        exact (List.mem_filter.1 this).1
      have hx : x ∈ y :: d' := by
        have : x ∈ (y :: d').filter (fun z => decide (key z = key x)) := by rw [hc (key x)]; simp
        exact (List.mem_filter.1 this).1
      obtain ⟨i, hi⟩ := List.getElem?_of_mem hy
      obtain ⟨j, hj⟩ := List.getElem?_of_mem hx
      have e1 := h.le (x := x) (y := y) (i := 0) (j := i) (Nat.le_refl _) (Nat.zero_le _) (List.getElem?_eq_some_iff.1 hi).1 (by simp) hi
      have e2 := k.le (x := y) (y := x) (i := 0) (j := j) (Nat.le_refl _) (Nat.zero_le _) (List.getElem?_eq_some_iff.1 hj).1 (by simp) hj
      have ek : key y = key x := ltK_eq e1 e2
      have hxy : y = x := by
        have := hc (key x)
        simp only [List.filter_cons, ek, decide_true, if_true] at this
        exact (List.cons.inj this).1
      subst hxy
      congr 1
      refine ih ?_ ?_ fun c => ?_
      · intro p q _ hpq hq u v hu hv
        exact h (p + 1) (q + 1) (by omega) (by omega) (by simp; omega) u v (by simpa using hu) (by simpa using hv)
      · intro p q _ hpq hq u v hu hv
        exact k (p + 1) (q + 1) (by omega) (by omega) (by simp; omega) u v (by simpa using hu) (by simpa using hv)
      · have := hc c
        simp only [List.filter_cons] at this
        split at this
        · exact (List.cons.inj this).2
        · exact this
end
end Go.Vc
