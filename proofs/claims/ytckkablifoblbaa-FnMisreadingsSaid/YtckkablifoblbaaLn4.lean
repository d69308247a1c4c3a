/- What passes along a line: the plain functions. Condition: none. -/
import Derived.Test.YtckkablifoblbaaLn3
import Derived.Test.YtckkablifoblbaaDeep1
namespace Go.Proofs.Ytckkablifoblbaa
open Go.Vc
set_option linter.all false

theorem xor_all : ∀ a : Fin 64, ∀ b : Fin 64, 0 ≤ bits .xor .i64 (a.val : Int) (b.val : Int) ∧ bits .xor .i64 (a.val : Int) (b.val : Int) ≤ 63 := by decide +kernel
theorem xor_none : ∀ a : Fin 64, bits .xor .i64 (a.val : Int) 0 = (a.val : Int) := by decide +kernel
theorem xor_in {a b : Int} (ha : 0 ≤ a ∧ a ≤ 63) (hb : 0 ≤ b ∧ b ≤ 63) : 0 ≤ bits .xor .i64 a b ∧ bits .xor .i64 a b ≤ 63 := by
  have h := xor_all ⟨a.toNat, by omega⟩ ⟨b.toNat, by omega⟩
  simp only [Int.toNat_of_nonneg ha.1, Int.toNat_of_nonneg hb.1] at h
  exact h
theorem xor_zero {a : Int} (ha : 0 ≤ a ∧ a ≤ 63) : bits .xor .i64 a 0 = a := by
  have h := xor_none ⟨a.toNat, by omega⟩
  simp only [Int.toNat_of_nonneg ha.1] at h
  exact h

/-- what is seen in glance g -/
def look (sc : List Int) (n : Int) (g : Nat) : Int := bits .xor .i64 n (sc.getD g 0)
theorem look_in {sc : List Int} (hsc : AllIn 0 63 sc) {n : Int} (hn : 0 ≤ n ∧ n ≤ 63) (g : Nat) : 0 ≤ look sc n g ∧ look sc n g ≤ 63 := by
  refine xor_in hn ?_
  rw [List.getD_eq_getElem?_getD]
  by_cases h : g < sc.length
  · simp only [List.getElem?_eq_getElem h, Option.getD_some]
    exact hsc _ (List.getElem_mem h)
  · simp [List.getElem?_eq_none (Nat.le_of_not_lt h)]
theorem look_far {sc : List Int} {n : Int} (hn : 0 ≤ n ∧ n ≤ 63) {g : Nat} (hg : ¬ g < sc.length) : look sc n g = n := by
  unfold look
  rw [List.getD_eq_getElem?_getD, List.getElem?_eq_none (Nat.le_of_not_lt hg), Option.getD_none]
  exact xor_zero hn
theorem look_near {sc : List Int} {n : Int} {g : Nat} (hg : g < sc.length) : look sc n g = bits .xor .i64 n sc[g] := by
  unfold look
  rw [List.getD_eq_getElem?_getD, List.getElem?_eq_getElem hg, Option.getD_some]

/-- at most t tries from one tower to the next -/
def hopF (sc : List Int) : Nat → Int → Nat → Option Int × Nat
  | 0, _, g => (none, g)
  | t + 1, n, g => if look sc (look sc n g) (g + 1) = n then (some (look sc n g), g + 2) else hopF sc t n (g + 2)
theorem hopF_yes {sc : List Int} {t : Nat} {n : Int} {g : Nat} (h : look sc (look sc n g) (g + 1) = n) : hopF sc (t + 1) n g = (some (look sc n g), g + 2) := by rw [hopF, if_pos h]
theorem hopF_no {sc : List Int} {t : Nat} {n : Int} {g : Nat} (h : ¬ look sc (look sc n g) (g + 1) = n) : hopF sc (t + 1) n g = hopF sc t n (g + 2) := by rw [hopF, if_neg h]
theorem hopF_in {sc : List Int} (hsc : AllIn 0 63 sc) : ∀ (t : Nat) {n : Int} (g : Nat) {s : Int} {g' : Nat}, 0 ≤ n ∧ n ≤ 63 → hopF sc t n g = (some s, g') → 0 ≤ s ∧ s ≤ 63
  | 0, _, _, _, _, _, h => by simp [hopF] at h
  | t + 1, n, g, s, g', hn, h => by
    by_cases c : look sc (look sc n g) (g + 1) = n
    · rw [hopF_yes c] at h
      simp only [Prod.mk.injEq, Option.some.injEq] at h
      rw [← h.1]; exact look_in hsc hn g
    · rw [hopF_no c] at h
      exact hopF_in hsc t (g + 2) hn h
theorem hopF_le {sc : List Int} : ∀ (t : Nat) {n : Int} (g : Nat) {o : Option Int} {g' : Nat}, hopF sc t n g = (o, g') → g' ≤ g + 2 * t
  | 0, _, g, o, g', h => by simp [hopF] at h; omega
  | t + 1, n, g, o, g', h => by
    by_cases c : look sc (look sc n g) (g + 1) = n
    · rw [hopF_yes c] at h
      simp only [Prod.mk.injEq] at h
      omega
    · rw [hopF_no c] at h
      have := hopF_le t (g + 2) h
      omega

/-- n laid to the end of row i -/
def put (LL : List (List Int)) (i : Nat) (n : Int) : List (List Int) := LL.set i (LL.getD i [] ++ [n])
theorem put_length (LL : List (List Int)) (i : Nat) (n : Int) : (put LL i n).length = LL.length := by simp [put]
theorem put_eq {LL : List (List Int)} {i : Nat} (hi : i < LL.length) (n : Int) : put LL i n = LL.set i (LL[i] ++ [n]) := by
  unfold put
  rw [List.getD_eq_getElem?_getD, List.getElem?_eq_getElem hi, Option.getD_some]

/-- a signal over k more gaps, from a tower on -/
def alongF (sc : List Int) (tries : Nat) : Nat → Nat → Int → List (List Int) → Nat → List (List Int) × Nat × Option Nat
  | 0, _, _, LL, g => (LL, g, none)
  | k + 1, tower, n, LL, g => match hopF sc tries n g with
    | (none, g') => (LL, g', some tower)
    | (some s, g') => alongF sc tries k (tower + 1) s (put LL (tower + 1) s) g'
theorem alongF_stop {sc : List Int} {tries k tower : Nat} {n : Int} {LL : List (List Int)} {g g' : Nat} (h : hopF sc tries n g = (none, g')) : alongF sc tries (k + 1) tower n LL g = (LL, g', some tower) := by rw [alongF, h]
theorem alongF_on {sc : List Int} {tries k tower : Nat} {n s : Int} {LL : List (List Int)} {g g' : Nat} (h : hopF sc tries n g = (some s, g')) : alongF sc tries (k + 1) tower n LL g = alongF sc tries k (tower + 1) s (put LL (tower + 1) s) g' := by rw [alongF, h]

/-- all signals: what the towers hold, the glances, and where it is stuck -/
def runF (sc : List Int) (tries gaps : Nat) : List Int → Nat → List (List Int) → Nat → List (List Int) × Nat × Option (Nat × Nat)
  | [], _, LL, g => (LL, g, none)
  | n :: r, i, LL, g => match alongF sc tries gaps 0 n (put LL 0 n) g with
    | (LL', g', some t) => (LL', g', some (i, t))
    | (LL', g', none) => runF sc tries gaps r (i + 1) LL' g'
theorem runF_stop {sc : List Int} {tries gaps : Nat} {n : Int} {r : List Int} {i t : Nat} {LL LL' : List (List Int)} {g g' : Nat} (h : alongF sc tries gaps 0 n (put LL 0 n) g = (LL', g', some t)) : runF sc tries gaps (n :: r) i LL g = (LL', g', some (i, t)) := by rw [runF, h]
theorem runF_on {sc : List Int} {tries gaps : Nat} {n : Int} {r : List Int} {i : Nat} {LL LL' : List (List Int)} {g g' : Nat} (h : alongF sc tries gaps 0 n (put LL 0 n) g = (LL', g', none)) : runF sc tries gaps (n :: r) i LL g = runF sc tries gaps r (i + 1) LL' g' := by rw [runF, h]

/-- how long the rows are -/
theorem put_len {LL : List (List Int)} {i : Nat} {n : Int} {f : Nat → Nat} (h : ∀ j, (LL.getD j []).length ≤ f j) (j : Nat) : ((put LL i n).getD j []).length ≤ if j = i then f j + 1 else f j := by
  have hj := h j
  simp only [put, List.getD_eq_getElem?_getD] at hj ⊢
  by_cases e : j = i
  · subst e
    simp only [if_true]
    by_cases hl : j < LL.length
    · rw [List.getElem?_set_self hl]; simp; exact hj
    · rw [List.getElem?_eq_none (by simp; omega)]; simp
  · rw [if_neg e, List.getElem?_set_ne (Ne.symm e)]; exact hj
theorem alongF_len {sc : List Int} {tries c : Nat} : ∀ (k tower : Nat) (n : Int) (LL : List (List Int)) (g : Nat), (∀ j, (LL.getD j []).length ≤ if j ≤ tower then c + 1 else c) → ∀ j, ((alongF sc tries k tower n LL g).1.getD j []).length ≤ c + 1
  | 0, tower, n, LL, g, h, j => by
    have := h j
    simp only [alongF]
    split at this <;> omega
  | k + 1, tower, n, LL, g, h, j => by
    cases hh : hopF sc tries n g with
    | mk o g' =>
      cases o with
      | none =>
        rw [alongF_stop hh]
        have := h j
        simp only
        split at this <;> omega
      | some s =>
        rw [alongF_on hh]
        refine alongF_len k (tower + 1) s _ g' (fun j => ?_) j
        have h1 := put_len (i := tower + 1) (n := s) h j
        refine Nat.le_trans h1 ?_
        by_cases e1 : j ≤ tower
        · rw [if_neg (by omega), if_pos e1, if_pos (by omega)]
          exact Nat.le_refl _
        · by_cases e2 : j = tower + 1
          · rw [if_pos e2, if_neg e1, if_pos (by omega)]; exact Nat.le_refl _
          · rw [if_neg e2, if_neg e1, if_neg (by omega)]; exact Nat.le_refl _
theorem runF_len {sc : List Int} {tries gaps : Nat} : ∀ (sg : List Int) (i c : Nat) (LL : List (List Int)) (g : Nat), (∀ j, (LL.getD j []).length ≤ c) → ∀ j, ((runF sc tries gaps sg i LL g).1.getD j []).length ≤ c + sg.length
  | [], i, c, LL, g, h, j => by simpa [runF] using h j
  | n :: r, i, c, LL, g, h, j => by
    have h1 := alongF_len (sc := sc) (tries := tries) gaps 0 n (put LL 0 n) g (c := c) (fun j => by
      have := put_len (i := 0) (n := n) (f := fun _ => c) h j
      refine Nat.le_trans this ?_
      by_cases e : j = 0
      · rw [if_pos e, if_pos (by omega)]; exact Nat.le_refl _
      · rw [if_neg e, if_neg (by omega)]; exact Nat.le_refl _)
    cases ha : alongF sc tries gaps 0 n (put LL 0 n) g with
    | mk LL' x =>
      obtain ⟨g', o⟩ := x
      rw [ha] at h1
      cases o with
      | some t => rw [runF_stop ha]; have := h1 j; simp only [List.length_cons]; simp only at this; omega
      | none =>
        rw [runF_on ha]
        have := runF_len (sc := sc) (tries := tries) (gaps := gaps) r (i + 1) (c + 1) LL' g' h1 j
        simp only [List.length_cons]; omega
theorem alongF_rows {sc : List Int} {tries : Nat} : ∀ (k tower : Nat) (n : Int) (LL : List (List Int)) (g : Nat), (alongF sc tries k tower n LL g).1.length = LL.length
  | 0, _, _, _, _ => rfl
  | k + 1, tower, n, LL, g => by
    cases hh : hopF sc tries n g with
    | mk o g' =>
      cases o with
      | none => rw [alongF_stop hh]
      | some s => rw [alongF_on hh, alongF_rows k, put_length]
theorem runF_rows {sc : List Int} {tries gaps : Nat} : ∀ (sg : List Int) (i : Nat) (LL : List (List Int)) (g : Nat), (runF sc tries gaps sg i LL g).1.length = LL.length
  | [], _, _, _ => rfl
  | n :: r, i, LL, g => by
    cases ha : alongF sc tries gaps 0 n (put LL 0 n) g with
    | mk LL' x =>
      obtain ⟨g', o⟩ := x
      have h1 := alongF_rows (sc := sc) (tries := tries) gaps 0 n (put LL 0 n) g
      rw [ha, put_length] at h1
      cases o with
      | some t => rw [runF_stop ha]; exact h1
      | none => rw [runF_on ha, runF_rows r]; exact h1
end Go.Proofs.Ytckkablifoblbaa
