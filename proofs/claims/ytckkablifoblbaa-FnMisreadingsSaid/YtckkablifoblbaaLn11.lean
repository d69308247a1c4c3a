/- Lines: plain facts of runs. Condition: none. -/
import Derived.Test.YtckkablifoblbaaLn8b
import Derived.Test.YtckkablifoblbaaLn9
namespace Go.Proofs.Ytckkablifoblbaa
open Go.Vc
set_option linter.all false

abbrev rl (LL : List (List Int)) (j : Nat) : Nat := (LL.getD j []).length
theorem put_getD {LL : List (List Int)} {i : Nat} {n : Int} (hi : i < LL.length) (j : Nat) : (put LL i n).getD j [] = if j = i then LL.getD j [] ++ [n] else LL.getD j [] := by
  unfold put
  simp only [List.getD_eq_getElem?_getD]
  by_cases e : j = i
  · subst e; rw [if_pos rfl, List.getElem?_set_self hi]; rfl
  · rw [if_neg e, List.getElem?_set_ne (Ne.symm e)]
theorem put_rl {LL : List (List Int)} {i : Nat} {n : Int} (hi : i < LL.length) (j : Nat) : rl (put LL i n) j = if j = i then rl LL j + 1 else rl LL j := by
  unfold rl
  rw [put_getD hi]
  split <;> simp
theorem hopF_ge {sc : List Int} : ∀ (t : Nat) {n : Int} (g : Nat) {s : Int} {g' : Nat}, hopF sc t n g = (some s, g') → g + 2 ≤ g'
  | 0, _, _, _, _, h => by simp [hopF] at h
  | t + 1, n, g, s, g', h => by
    by_cases c : look sc (look sc n g) (g + 1) = n
    · rw [hopF_yes c] at h
      simp only [Prod.mk.injEq] at h
      omega
    · rw [hopF_no c] at h
      have := hopF_ge t (g + 2) h
      omega
theorem hopF_more {sc : List Int} : ∀ (t : Nat) {n : Int} (g : Nat) {s : Int} {g' : Nat} (t' : Nat), t ≤ t' → hopF sc t n g = (some s, g') → hopF sc t' n g = (some s, g')
  | 0, _, _, _, _, _, _, h => by simp [hopF] at h
  | t + 1, n, g, s, g', t', ht, h => by
    obtain ⟨u, rfl⟩ : ∃ u, t' = u + 1 := ⟨t' - 1, by omega⟩
    by_cases c : look sc (look sc n g) (g + 1) = n
    · rw [hopF_yes c] at h ⊢; exact h
    · rw [hopF_no c] at h ⊢
      exact hopF_more t (g + 2) u (by omega) h
theorem alongF_rl {sc : List Int} {tries c : Nat} : ∀ (k tower : Nat) (n : Int) (LL : List (List Int)) (g : Nat) (LL' : List (List Int)) (g' : Nat) (o : Option Nat), alongF sc tries k tower n LL g = (LL', g', o) → LL.length = tower + k + 1 → (∀ j, j ≤ tower → rl LL j = c + 1) → (∀ j, tower < j → j ≤ tower + k → rl LL j = c) →
    (o = none → (∀ j, j ≤ tower + k → rl LL' j = c + 1) ∧ g + 2 * k ≤ g') ∧ ∀ t, o = some t → tower ≤ t ∧ t < tower + k ∧ (∀ j, j ≤ t → rl LL' j = c + 1) ∧ ∀ j, t < j → j ≤ tower + k → rl LL' j = c
  | 0, tower, n, LL, g, LL', g', o, h, hl, h1, h2 => by
    simp only [alongF, Prod.mk.injEq] at h
    obtain ⟨rfl, rfl, rfl⟩ := h
    exact ⟨fun _ => ⟨fun j hj => h1 j (by omega), by omega⟩, fun t ht => by cases ht⟩
  | k + 1, tower, n, LL, g, LL', g', o, h, hl, h1, h2 => by
    cases hh : hopF sc tries n g with
    | mk s g1 =>
      cases s with
      | none =>
        rw [alongF_stop hh] at h
        simp only [Prod.mk.injEq] at h
        obtain ⟨rfl, rfl, rfl⟩ := h
        refine ⟨fun hc => (by cases hc), fun t ht => ?_⟩
        obtain rfl := Option.some.inj ht
        exact ⟨Nat.le_refl _, by omega, h1, h2⟩
      | some s =>
        rw [alongF_on hh] at h
        have hg := hopF_ge _ _ hh
        have r := alongF_rl k (tower + 1) s (put LL (tower + 1) s) g1 LL' g' o h (by rw [put_length]; omega) (fun j hj => by
          rw [put_rl (by omega)]
          split
          · rename_i e; rw [h2 j (by omega) (by omega)]
          · exact h1 j (by omega)) (fun j hj hk => by
          rw [put_rl (by omega), if_neg (by omega)]
          exact h2 j (by omega) (by omega))
        refine ⟨fun hc => ?_, fun t ht => ?_⟩
        · obtain ⟨a, b⟩ := r.1 hc
          exact ⟨fun j hj => a j (by omega), by omega⟩
        · obtain ⟨a, b, c1, d⟩ := r.2 t ht
          exact ⟨by omega, by omega, c1, fun j h3 h4 => d j h3 (by omega)⟩
theorem runF_rl {sc : List Int} {tries gaps : Nat} : ∀ (sg : List Int) (i c : Nat) (LL : List (List Int)) (g : Nat) (LL' : List (List Int)) (g' : Nat) (o : Option (Nat × Nat)), runF sc tries gaps sg i LL g = (LL', g', o) → LL.length = gaps + 1 → (∀ j, j ≤ gaps → rl LL j = c) →
    (o = none → (∀ j, j ≤ gaps → rl LL' j = c + sg.length) ∧ g + 2 * sg.length * gaps ≤ g') ∧ ∀ s t, o = some (s, t) → i ≤ s ∧ s < i + sg.length ∧ t < gaps ∧ (∀ j, j ≤ t → rl LL' j = c + (s - i) + 1) ∧ ∀ j, t < j → j ≤ gaps → rl LL' j = c + (s - i)
  | [], i, c, LL, g, LL', g', o, h, hl, h1 => by
    simp only [runF, Prod.mk.injEq] at h
    obtain ⟨rfl, rfl, rfl⟩ := h
    exact ⟨fun _ => ⟨fun j hj => by simpa using h1 j hj, by simp⟩, fun s t ht => by cases ht⟩
  | n :: r, i, c, LL, g, LL', g', o, h, hl, h1 => by
    cases ha : alongF sc tries gaps 0 n (put LL 0 n) g with
    | mk L1 x =>
      obtain ⟨g1, o1⟩ := x
      have k := alongF_rl (c := c) gaps 0 n (put LL 0 n) g L1 g1 o1 ha (by rw [put_length]; omega) (fun j hj => by
        rw [put_rl (by omega), if_pos (by omega), h1 j (by omega)]) (fun j hj hk => by
        rw [put_rl (by omega), if_neg (by omega), h1 j (by omega)])
      cases o1 with
      | some t =>
        rw [runF_stop ha] at h
        simp only [Prod.mk.injEq] at h
        obtain ⟨rfl, rfl, rfl⟩ := h
        refine ⟨fun hc => (by cases hc), fun s t' ht => ?_⟩
        simp only [Option.some.injEq, Prod.mk.injEq] at ht
        obtain ⟨rfl, rfl⟩ := ht
        obtain ⟨a, b, c1, d⟩ := k.2 t rfl
        exact ⟨Nat.le_refl _, by simp, by omega, fun j hj => by rw [c1 j hj]; omega, fun j h3 h4 => by rw [d j h3 (by omega)]; omega⟩
      | none =>
        rw [runF_on ha] at h
        obtain ⟨a, b⟩ := k.1 rfl
        have hlen : L1.length = gaps + 1 := by
          have := alongF_rows (sc := sc) (tries := tries) gaps 0 n (put LL 0 n) g
          rw [ha, put_length] at this
          simp only at this; omega
        have q := runF_rl r (i + 1) (c + 1) L1 g1 LL' g' o h hlen (fun j hj => a j (by omega))
        refine ⟨fun hc => ?_, fun s t ht => ?_⟩
        · obtain ⟨u, v⟩ := q.1 hc
          refine ⟨fun j hj => by rw [u j hj, List.length_cons]; omega, ?_⟩
          have e : 2 * (n :: r).length * gaps = 2 * r.length * gaps + 2 * gaps := by rw [List.length_cons, Nat.mul_add, Nat.add_mul]
          omega
        · obtain ⟨u, v, w, x, y⟩ := q.2 s t ht
          exact ⟨by omega, by simp only [List.length_cons]; omega, w, fun j hj => by rw [x j hj]; omega, fun j h3 h4 => by rw [y j h3 h4]; omega⟩
theorem rep_rl (n j : Nat) : rl (List.replicate n ([] : List Int)) j = 0 := Nat.le_zero.1 (getD_rep n j)
theorem run_none {t r : Int} {sg sc : List Int} (ht : 2 ≤ t) (h : (runOf t r sg sc).2.2 = none) : (∀ j, j ≤ t.toNat - 1 → rl (runOf t r sg sc).1 j = sg.length) ∧ 2 * sg.length * (t.toNat - 1) ≤ (runOf t r sg sc).2.1 := by
  have k := (runF_rl (sc := sc) (tries := r.toNat) (gaps := t.toNat - 1) sg 0 0 (List.replicate t.toNat []) 0 _ _ _ rfl (by simp; omega) (fun j hj => rep_rl _ _)).1 h
  exact ⟨fun j hj => by have := k.1 j hj; simpa [runOf] using this, by have := k.2; simpa [runOf] using this⟩
theorem run_some {t r : Int} {sg sc : List Int} {s w : Nat} (ht : 2 ≤ t) (h : (runOf t r sg sc).2.2 = some (s, w)) : s < sg.length ∧ w < t.toNat - 1 ∧ (∀ j, j ≤ w → rl (runOf t r sg sc).1 j = s + 1) ∧ ∀ j, w < j → j ≤ t.toNat - 1 → rl (runOf t r sg sc).1 j = s := by
  obtain ⟨a, b, c, d, e⟩ := (runF_rl (sc := sc) (tries := r.toNat) (gaps := t.toNat - 1) sg 0 0 (List.replicate t.toNat []) 0 _ _ _ rfl (by simp; omega) (fun j hj => rep_rl _ _)).2 s w h
  exact ⟨by omega, c, fun j hj => by have := d j hj; simpa [runOf] using this, fun j h3 h4 => by have := e j h3 h4; simpa [runOf] using this⟩
theorem run_low {t r : Int} {sg sc : List Int} (ht : 2 ≤ t) {i j : Nat} (hij : i ≤ j) (hj : j ≤ t.toNat - 1) : rl (runOf t r sg sc).1 j ≤ rl (runOf t r sg sc).1 i := by
  cases h : (runOf t r sg sc).2.2 with
  | none =>
    have k := (run_none ht h).1
    rw [k j hj, k i (by omega)]; exact Nat.le_refl _
  | some p =>
    obtain ⟨s, w⟩ := p
    obtain ⟨_, _, k1, k2⟩ := run_some ht h
    by_cases c1 : j ≤ w
    · rw [k1 j c1, k1 i (by omega)]; exact Nat.le_refl _
    · rw [k2 j (by omega) hj]
      by_cases c2 : i ≤ w
      · rw [k1 i c2]; omega
      · rw [k2 i (by omega) (by omega)]; exact Nat.le_refl _

/-- what PassLine and LineGlances say together -/
theorem pl_facts {t r : Int} {sg sc : List Int} (h : (plOut t r sg sc).2.2 = true) : Asked t r sg sc ∧ (plOut t r sg sc).1.length ≤ sg.length ∧ (plOut t r sg sc).2.1 = (((plOut t r sg sc).1.length : Int) == (sg.length : Int)) ∧ ((plOut t r sg sc).2.1 = true → (2 * (sg.length : Int)) * (t - 1) ≤ (glOut t r sg sc).1) ∧ sg.length ≤ 20 ∧ 2 ≤ t ∧ t ≤ 10 := by
  unfold plOut at h
  split at h
  · rename_i ha
    have ht : 2 ≤ t ∧ t ≤ 10 := ha.1.1
    have hlen : sg.length ≤ 20 := by have := ha.2.1.1; omega
    have e : plOut t r sg sc = ((runOf t r sg sc).1.getD (t.toNat - 1) [], !(runOf t r sg sc).2.2.isSome, true) := by rw [plOut, if_pos ha]
    have e2 : (glOut t r sg sc).1 = ((runOf t r sg sc).2.1 : Int) := by rw [glOut, if_pos ha]
    rw [e]
    refine ⟨ha, ?_, ?_, ?_, hlen, ht.1, ht.2⟩
    · exact rowlen t r sg sc _
    · simp only
      cases ho : (runOf t r sg sc).2.2 with
      | none =>
        have := (run_none ht.1 ho).1 (t.toNat - 1) (Nat.le_refl _)
        exact (beq_iff_eq.2 (show ((((runOf t r sg sc).1.getD (t.toNat - 1) []).length : Nat) : Int) = (sg.length : Int) from congrArg Nat.cast this)).symm
      | some p =>
        obtain ⟨s, w⟩ := p
        obtain ⟨k1, k2, _, k3⟩ := run_some ht.1 ho
        have := k3 (t.toNat - 1) k2 (Nat.le_refl _)
        simp only [Option.isSome_some, Bool.not_true]
        exact (beq_eq_false_iff_ne.2 (by unfold rl at this; omega)).symm
    · intro hc
      simp only [Bool.not_eq_eq_eq_not, Bool.not_true, Option.isSome_eq_false_iff, Option.isNone_iff_eq_none] at hc
      have := (run_none ht.1 hc).2
      rw [e2]
      have q : ((2 * sg.length * (t.toNat - 1) : Nat) : Int) = (2 * (sg.length : Int)) * (t - 1) := by
        rw [Int.natCast_mul, Int.natCast_mul]
        congr 1; omega
      rw [← q]; exact Int.ofNat_le.2 this
  · cases h
theorem ha_ok {t r : Int} {sg sc : List Int} (ha : Asked t r sg sc) {i : Int} (h0 : 0 ≤ i) (h1 : i < t) : (haOut t r sg sc i).2 = true := by rw [haOut, if_pos ⟨ha, h0, by omega⟩]
theorem ha_le (t r : Int) (sg sc : List Int) (i : Int) : (haOut t r sg sc i).1.length ≤ sg.length := by
  unfold haOut
  split
  · exact rowlen t r sg sc _
  · simp
theorem ha_mono {t r : Int} {sg sc : List Int} (ha : Asked t r sg sc) {i j : Int} (h0 : 0 ≤ i) (hij : i ≤ j) (h1 : i < t) : (haOut t r sg sc j).1.length ≤ (haOut t r sg sc i).1.length := by
  unfold haOut
  split
  · rename_i c
    rw [if_pos ⟨ha, h0, by omega⟩]
    have := c.2.2
    exact run_low ha.1.1.1 (by omega) (by omega)
  · simp

/-- scripts that change nothing -/
theorem alongF_good {sc : List Int} {tries : Nat} (hg : ∀ n g, 0 ≤ n ∧ n ≤ 63 → (hopF sc tries n g).1 = some n) {n : Int} (hn : 0 ≤ n ∧ n ≤ 63) : ∀ (k tower : Nat) (LL : List (List Int)) (g : Nat), LL.length = tower + k + 1 →
    (alongF sc tries k tower n LL g).2.2 = none ∧ (∀ j, (alongF sc tries k tower n LL g).1.getD j [] = if tower < j ∧ j ≤ tower + k then LL.getD j [] ++ [n] else LL.getD j []) ∧ ((∀ n g, 0 ≤ n ∧ n ≤ 63 → (hopF sc tries n g).2 = g + 2) → (alongF sc tries k tower n LL g).2.1 = g + 2 * k)
  | 0, tower, LL, g, hl => ⟨rfl, fun j => by rw [if_neg (by omega)]; rfl, fun _ => rfl⟩
  | k + 1, tower, LL, g, hl => by
    cases hh : hopF sc tries n g with
    | mk o g1 =>
      have h1 := hg n g hn
      rw [hh] at h1
      simp only at h1
      subst h1
      rw [alongF_on hh]
      obtain ⟨a, b, c⟩ := alongF_good hg hn k (tower + 1) (put LL (tower + 1) n) g1 (by rw [put_length]; omega)
      refine ⟨a, fun j => ?_, fun h2 => ?_⟩
      · rw [b j, put_getD (by omega)]
        by_cases e : j = tower + 1
        · rw [if_neg (by omega), if_pos e, if_pos (by omega)]
        · rw [if_neg e]
          by_cases e2 : tower + 1 < j ∧ j ≤ tower + 1 + k
          · rw [if_pos e2, if_pos (by omega)]
          · rw [if_neg e2, if_neg (by omega)]
      · have h3 := h2 n g hn
        rw [hh] at h3
        rw [c h2]
        simp only at h3; omega
theorem runF_good {sc : List Int} {tries gaps : Nat} (hg : ∀ n g, 0 ≤ n ∧ n ≤ 63 → (hopF sc tries n g).1 = some n) : ∀ (sg : List Int) (i : Nat) (LL : List (List Int)) (g : Nat), AllIn 0 63 sg → LL.length = gaps + 1 →
    (runF sc tries gaps sg i LL g).2.2 = none ∧ (∀ j, j ≤ gaps → (runF sc tries gaps sg i LL g).1.getD j [] = LL.getD j [] ++ sg) ∧ ((∀ n g, 0 ≤ n ∧ n ≤ 63 → (hopF sc tries n g).2 = g + 2) → (runF sc tries gaps sg i LL g).2.1 = g + 2 * sg.length * gaps)
  | [], i, LL, g, _, hl => ⟨rfl, fun j _ => by simp [runF], fun _ => by simp [runF]⟩
  | n :: r, i, LL, g, hs, hl => by
    have hn : 0 ≤ n ∧ n ≤ 63 := hs n (List.mem_cons_self ..)
    have k := alongF_good hg hn gaps 0 (put LL 0 n) g (by rw [put_length]; omega)
    cases ha : alongF sc tries gaps 0 n (put LL 0 n) g with
    | mk L1 x =>
      obtain ⟨g1, o1⟩ := x
      rw [ha] at k
      obtain ⟨k1, k2, k3⟩ := k
      simp only at k1 k2 k3
      subst k1
      have hlen : L1.length = gaps + 1 := by
        have := alongF_rows (sc := sc) (tries := tries) gaps 0 n (put LL 0 n) g
        rw [ha, put_length] at this
        simp only at this; omega
      rw [runF_on ha]
      obtain ⟨a, b, c⟩ := runF_good hg r (i + 1) L1 g1 (fun x hx => hs x (List.mem_cons_of_mem _ hx)) hlen
      refine ⟨a, fun j hj => ?_, fun h2 => ?_⟩
      · rw [b j hj, k2 j, put_getD (by omega)]
        by_cases e : j = 0
        · rw [if_neg (by omega), if_pos e]; simp
        · rw [if_pos (by omega), if_neg e]; simp
      · rw [c h2, k3 h2, List.length_cons, Nat.mul_add, Nat.add_mul]; omega
theorem run_good {t r : Int} {sg sc : List Int} (ht : 2 ≤ t) (hs : AllIn 0 63 sg) (hg : ∀ n g, 0 ≤ n ∧ n ≤ 63 → (hopF sc r.toNat n g).1 = some n) : (runOf t r sg sc).2.2 = none ∧ (∀ j, j ≤ t.toNat - 1 → (runOf t r sg sc).1.getD j [] = sg) ∧ ((∀ n g, 0 ≤ n ∧ n ≤ 63 → (hopF sc r.toNat n g).2 = g + 2) → (runOf t r sg sc).2.1 = 2 * sg.length * (t.toNat - 1)) := by
  obtain ⟨a, b, c⟩ := runF_good (gaps := t.toNat - 1) hg sg 0 (List.replicate t.toNat []) 0 hs (by simp; omega)
  refine ⟨a, fun j hj => ?_, fun h2 => ?_⟩
  · have := b j hj
    rw [List.getD_eq_getElem?_getD (l := List.replicate _ _), List.getElem?_eq_getElem (by simp; omega)] at this
    simpa [runOf] using this
  · have := c h2
    simpa [runOf] using this
theorem look_nil {n : Int} (hn : 0 ≤ n ∧ n ≤ 63) (g : Nat) : look [] n g = n := look_far hn (by simp)
theorem hop_nil {n : Int} (hn : 0 ≤ n ∧ n ≤ 63) (t g : Nat) (ht : 1 ≤ t) : hopF [] t n g = (some n, g + 2) := by
  obtain ⟨u, rfl⟩ : ∃ u, t = u + 1 := ⟨t - 1, by omega⟩
  have c : look [] (look [] n g) (g + 1) = n := by rw [look_nil hn, look_nil hn]
  rw [hopF_yes c, look_nil hn]
theorem pl_plain {t r : Int} {sg sc : List Int} (ha : Asked t r sg sc) : plOut t r sg [] = (sg, true, true) := by
  have hA : Asked t r sg [] := ⟨ha.1, ha.2.1, by simp, fun x hx => by simp at hx⟩
  have ht := ha.1.1.1
  have hr := ha.1.2.1
  obtain ⟨a, b, _⟩ := run_good (t := t) (r := r) (sc := []) ht ha.2.1.2 (fun n g hn => by rw [hop_nil hn _ _ (by omega)])
  rw [plOut, if_pos hA, a, b _ (Nat.le_refl _)]; rfl
theorem gl_plain {t r n : Int} (h : (plainOut t r n).2 = true) : (0 ≤ n ∧ n ≤ 20) ∧ glOut t r (List.replicate n.toNat 0) [] = ((plainOut t r n).1, true) := by
  unfold plainOut at h
  split at h
  · rename_i c
    have hA : Asked t r (List.replicate n.toNat 0) [] := ⟨c.1, ⟨by simp; omega, fun x hx => by obtain rfl := List.eq_of_mem_replicate hx; omega⟩, by simp, fun x hx => by simp at hx⟩
    have ht := c.1.1.1
    have hr := c.1.2.1
    obtain ⟨_, _, k⟩ := run_good (t := t) (r := r) (sc := []) ht hA.2.1.2 (fun n g hn => by rw [hop_nil hn _ _ (by omega)])
    refine ⟨c.2, ?_⟩
    rw [glOut, if_pos hA, k (fun n g hn => by rw [hop_nil hn _ _ (by omega)]), plainOut, if_pos c]
    simp only [List.length_replicate, Prod.mk.injEq, and_true]
    rw [Int.natCast_mul, Int.natCast_mul]
    have e1 : ((n.toNat : Nat) : Int) = n := by omega
    have e2 : ((t.toNat - 1 : Nat) : Int) = t - 1 := by omega
    rw [e1, e2]; rfl
  · cases h

/-- stuck or through -/
theorem st_pl {t r : Int} {sg sc : List Int} (h : (plOut t r sg sc).2.2 = true) : (plOut t r sg sc).2.1 = !(stOut t r sg sc).2.2 := by
  have ha := (pl_facts h).1
  rw [plOut, stOut, if_pos ha, if_pos ha]
theorem st_facts {t r : Int} {sg sc : List Int} (h : (stOut t r sg sc).2.2 = true) : Asked t r sg sc ∧ (0 ≤ (stOut t r sg sc).2.1 ∧ (stOut t r sg sc).2.1 + 1 < t ∧ t ≤ 10) ∧ (0 ≤ (stOut t r sg sc).1 ∧ (stOut t r sg sc).1 ≤ 20) ∧
    ((haOut t r sg sc (stOut t r sg sc).2.1).1.length : Int) = (stOut t r sg sc).1 + 1 ∧ ((haOut t r sg sc ((stOut t r sg sc).2.1 + 1)).1.length : Int) = (stOut t r sg sc).1 ∧ (haOut t r sg sc (stOut t r sg sc).2.1).2 = true ∧ (haOut t r sg sc ((stOut t r sg sc).2.1 + 1)).2 = true := by
  have ha : Asked t r sg sc := by
    unfold stOut at h
    split at h
    · assumption
    · cases h
  have ht := ha.1.1
  have e : stOut t r sg sc = ((runOf t r sg sc).sig, (runOf t r sg sc).tow, (runOf t r sg sc).2.2.isSome) := by rw [stOut, if_pos ha]
  rw [e] at h ⊢
  simp only at h ⊢
  cases ho : (runOf t r sg sc).2.2 with
  | none => rw [ho] at h; cases h
  | some p =>
    obtain ⟨s, w⟩ := p
    obtain ⟨k1, k2, k3, k4⟩ := run_some ht.1 ho
    have hs : (runOf t r sg sc).sig = s := by unfold Run.sig; rw [ho]
    have hw : (runOf t r sg sc).tow = w := by unfold Run.tow; rw [ho]
    have hlen : sg.length ≤ 20 := by have := ha.2.1.1; omega
    rw [hs, hw]
    have c1 : Asked t r sg sc ∧ 0 ≤ (w : Int) ∧ (w : Int) ≤ t - 1 := ⟨ha, by omega, by omega⟩
    have c2 : Asked t r sg sc ∧ 0 ≤ (w : Int) + 1 ∧ (w : Int) + 1 ≤ t - 1 := ⟨ha, by omega, by omega⟩
    refine ⟨ha, by omega, by omega, ?_, ?_, by rw [haOut, if_pos c1], by rw [haOut, if_pos c2]⟩
    · rw [haOut, if_pos c1]
      have := k3 w (Nat.le_refl _)
      simp only [Int.toNat_natCast]
      unfold rl at this; omega
    · rw [haOut, if_pos c2]
      have := k4 (w + 1) (by omega) (by omega)
      have e : ((w : Int) + 1).toNat = w + 1 := by omega
      rw [e]
      simp only
      unfold rl at this; omega

/-- more tries -/
theorem alongF_more {sc : List Int} {tries tries' : Nat} (ht : tries ≤ tries') : ∀ (k tower : Nat) (n : Int) (LL : List (List Int)) (g : Nat), (alongF sc tries k tower n LL g).2.2 = none → alongF sc tries' k tower n LL g = alongF sc tries k tower n LL g
  | 0, _, _, _, _, _ => rfl
  | k + 1, tower, n, LL, g, h => by
    cases hh : hopF sc tries n g with
    | mk o g1 =>
      cases o with
      | none => rw [alongF_stop hh] at h; cases h
      | some s =>
        rw [alongF_on hh] at h ⊢
        rw [alongF_on (hopF_more _ _ _ ht hh)]
        exact alongF_more ht k _ _ _ _ h
theorem runF_more {sc : List Int} {tries tries' gaps : Nat} (ht : tries ≤ tries') : ∀ (sg : List Int) (i : Nat) (LL : List (List Int)) (g : Nat), (runF sc tries gaps sg i LL g).2.2 = none → runF sc tries' gaps sg i LL g = runF sc tries gaps sg i LL g
  | [], _, _, _, _ => rfl
  | n :: r, i, LL, g, h => by
    cases ha : alongF sc tries gaps 0 n (put LL 0 n) g with
    | mk L1 x =>
      obtain ⟨g1, o1⟩ := x
      cases o1 with
      | some t => rw [runF_stop ha] at h; cases h
      | none =>
        have hb : alongF sc tries' gaps 0 n (put LL 0 n) g = (L1, g1, none) := by rw [alongF_more ht _ _ _ _ _ (by rw [ha]), ha]
        rw [runF_on ha] at h ⊢
        rw [runF_on hb]
        exact runF_more ht r _ _ _ h
theorem least_spec {t : Int} {sg sc : List Int} : ∀ k, k ≤ 5 → (leastF t sg sc k).2 = true → 1 ≤ (leastF t sg sc k).1 ∧ (leastF t sg sc k).1 ≤ 5 ∧ (runOf t (leastF t sg sc k).1 sg sc).2.2 = none
  | 0, _, h => by simp [leastF] at h
  | k + 1, hk, h => by
    by_cases c : (runOf t (5 - k) sg sc).2.2.isSome = true
    · have e : leastF t sg sc (k + 1) = leastF t sg sc k := by rw [leastF, if_pos c]
      rw [e] at h ⊢
      exact least_spec k (by omega) h
    · have e : leastF t sg sc (k + 1) = ((5 : Int) - (k : Int), true) := by rw [leastF, if_neg c]
      rw [e]
      refine ⟨by simp only; omega, by simp only; omega, ?_⟩
      simpa using c
theorem lt_facts {t r : Int} {sg sc : List Int} (h : (ltOut t r sg sc).2 = true) : (1 ≤ (ltOut t r sg sc).1 ∧ (ltOut t r sg sc).1 ≤ 5) ∧ ∀ k, (ltOut t r sg sc).1 ≤ k → k ≤ 5 → (plOut t k sg sc).2.1 = true ∧ (plOut t k sg sc).2.2 = true := by
  have ha : Asked t r sg sc := by
    unfold ltOut at h
    split at h
    · assumption
    · cases h
  have e : ltOut t r sg sc = leastF t sg sc 5 := by rw [ltOut, if_pos ha]
  rw [e] at h ⊢
  obtain ⟨k1, k2, k3⟩ := least_spec 5 (Nat.le_refl _) h
  refine ⟨⟨k1, k2⟩, fun k h1 h2 => ?_⟩
  have hA : Asked t k sg sc := ⟨⟨ha.1.1, by omega, by omega⟩, ha.2⟩
  have q := runF_more (tries := (leastF t sg sc 5).1.toNat) (tries' := k.toNat) (by omega) sg 0 (List.replicate t.toNat []) 0 k3
  have q2 : (runOf t k sg sc).2.2 = none := by
    have : runOf t k sg sc = runOf t (leastF t sg sc 5).1 sg sc := q
    rw [this]; exact k3
  rw [plOut, if_pos hA, q2]
  exact ⟨rfl, rfl⟩

/-- one pattern alone -/
theorem look_off {sc : List Int} {n : Int} (hn : 0 ≤ n ∧ n ≤ 63) {g : Nat} (h : sc.getD g 0 = 0) : look sc n g = n := by
  unfold look; rw [h]; exact xor_zero hn
theorem hop_one {sc : List Int} {i : Nat} (hsc : AllIn 0 63 sc) (ho : ∀ g, g ≠ i → sc.getD g 0 = 0) {n : Int} (hn : 0 ≤ n ∧ n ≤ 63) (t g : Nat) (ht : 2 ≤ t) : (hopF sc t n g).1 = some n := by
  obtain ⟨u, rfl⟩ : ∃ u, t = u + 2 := ⟨t - 2, by omega⟩
  by_cases c : look sc (look sc n g) (g + 1) = n
  · rw [hopF_yes c]
    by_cases e : g = i
    · have h1 := look_off (sc := sc) (look_in hsc hn g) (ho (g + 1) (by omega))
      rw [h1] at c
      rw [c]
    · rw [look_off hn (ho g e)]
  · rw [hopF_no c]
    have e : g = i ∨ g + 1 = i := by
      by_cases e1 : g = i
      · exact .inl e1
      · by_cases e2 : g + 1 = i
        · exact .inr e2
        · rw [look_off hn (ho g e1), look_off hn (ho (g + 1) e2)] at c
          exact absurd rfl c
    have l1 := look_off hn (ho (g + 2) (by omega))
    have l2 := look_off hn (ho (g + 2 + 1) (by omega))
    have c2 : look sc (look sc n (g + 2)) (g + 2 + 1) = n := by rw [l1, l2]
    rw [hopF_yes c2, l1]
theorem wrong_none (sg : List Int) : ∀ (l : List Int) (i : Nat), l = sg.drop i → wrongF sg l i = []
  | [], _, _ => rfl
  | n :: r, i, h => by
    have h1 : sg[i]? = some n := by
      have : (sg.drop i)[0]? = some n := by rw [← h]; rfl
      simpa using this
    have h2 : r = sg.drop (i + 1) := by
      have : (sg.drop i).tail = r := by rw [← h]; rfl
      rw [← this, List.tail_drop]
    rw [wrongF, if_neg (by rw [List.getD_eq_getElem?_getD, h1]; simp)]
    exact wrong_none sg r (i + 1) h2
theorem ws_one {t r i p : Int} {sg : List Int} (h : (patOut [] i p).2 = true) (hr : 1 < r) : (wsOut t r sg (patOut [] i p).1).1 = [] := by
  unfold patOut at h
  split at h
  · rename_i c
    have e : (patOut [] i p).1 = (List.replicate (i.toNat + 1) 0).set i.toNat p := by rw [patOut, if_pos c]; simp
    rw [e]
    unfold wsOut
    split
    · rename_i ha
      have ht := ha.1.1.1
      obtain ⟨_, b, _⟩ := run_good (t := t) (r := r) (sc := (List.replicate (i.toNat + 1) 0).set i.toNat p) ht ha.2.1.2 (fun n g hn => hop_one (i := i.toNat) ha.2.2.2 (fun g hg => by
        rw [List.getD_eq_getElem?_getD, List.getElem?_set_ne (Ne.symm hg)]
        by_cases hl : g < i.toNat + 1
        · rw [List.getElem?_replicate_of_lt hl]; rfl
        · rw [List.getElem?_eq_none (by simp; omega)]; rfl) hn _ _ (by omega))
      rw [b _ (Nat.le_refl _)]
      exact wrong_none sg sg 0 rfl
    · rfl
  · cases h
theorem gl_ok (t r : Int) (sg sc : List Int) : (glOut t r sg sc).2 = (plOut t r sg sc).2.2 := by
  unfold glOut plOut; split <;> rfl
theorem ws_ok (t r : Int) (sg sc : List Int) : (wsOut t r sg sc).2 = (plOut t r sg sc).2.2 := by
  unfold wsOut plOut; split <;> rfl
theorem pat_nil {xs : List Int} {i p : Int} (h : (patOut xs i p).2 = true) : (patOut [] i p).2 = true := by
  unfold patOut at h
  split at h
  · rename_i c
    rw [patOut, if_pos ⟨⟨by simp, fun x hx => by simp at hx⟩, c.2⟩]
  · cases h
theorem bump_sum {o : List Int} {i : Nat} (h : i < o.length) : (bump o i).sum = o.sum + 1 := by
  unfold bump
  induction o generalizing i with
  | nil => simp at h
  | cons x o ih =>
    cases i with
    | zero => simp; omega
    | succ i =>
      have := ih (i := i) (by simpa using h)
      simp only [List.set_cons_succ, List.sum_cons, List.getD_cons_succ]
      omega
theorem lineCl_lt (t r : Int) (sg sc : List Int) : lineCl t r sg sc < 3 := by
  unfold lineCl; (repeat' split) <;> omega
theorem fold_sum {t r : Int} {sg : List Int} : ∀ (scs : List (List Int)) (o : List Int), o.length = 3 → (scs.foldl (fun o sc => bump o (lineCl t r sg sc)) o).sum = o.sum + scs.length
  | [], o, _ => by simp
  | sc :: scs, o, h => by
    have hl := lineCl_lt t r sg sc
    rw [List.foldl_cons, fold_sum scs _ (by rw [bump, List.length_set]; exact h), bump_sum (by omega), List.length_cons]; omega
theorem tab_facts {t r : Int} {sg : List Int} {scs : List (List Int)} (h : (tabOut t r sg scs).2 = true) : (tabOut t r sg scs).1.sum = (scs.length : Int) := by
  unfold tabOut at h ⊢
  split at h
  · rename_i c
    rw [if_pos c]
    have := fold_sum (t := t) (r := r) (sg := sg) scs [0, 0, 0] rfl
    simpa [tabF] using this
  · cases h
theorem tab_val {t r : Int} {sg : List Int} {scs : List (List Int)} (hl : scs.length ≤ 1000) : ∀ x ∈ (tabOut t r sg scs).1, 0 ≤ x ∧ x ≤ 1000000 := by
  unfold tabOut
  split
  · intro x hx; have := tab_in scs x hx; omega
  · simp
theorem si_step {a b : List Int} {k : Nat} {x y : Int} (h : a.take k = b.take k) (hx : a[k]? = some x) (hy : b[k]? = some y) (e : x = y) : a.take (k + 1) = b.take (k + 1) := by
  rw [List.take_add_one, List.take_add_one, h, hx, hy, e]
theorem si_done {a b : List Int} {k : Nat} (h : a.take k = b.take k) (hk : ¬ (k : Int) < (a.length : Int)) (hl : (a.length : Int) = (b.length : Int)) : a = b := by
  rw [List.take_of_length_le (by omega), List.take_of_length_le (by omega)] at h; exact h
theorem si_ne {a b : List Int} {k : Nat} {x y : Int} (hx : a[k]? = some x) (hy : b[k]? = some y) (h : x ≠ y) : a ≠ b := fun e => by
  subst e; rw [hx] at hy; exact h (Option.some.inj hy)
end Go.Proofs.Ytckkablifoblbaa
