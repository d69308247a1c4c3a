/- The messages of some packets: plain laws (strictly growing lists, put, sort and compact). Condition: none. -/
import Derived.Test.YtjmcijcdncgaiaaPk3
import Derived.Lib.SlicesCompact
namespace Go.Proofs.Ytjmcijcdncgaiaa
open Go.Vc
set_option linter.all false

def putW (l : List Int) (n : Int) : List Int := if l[(l.takeWhile (fun x => decide (x < n))).length]? = some n then l else l.take (l.takeWhile (fun x => decide (x < n))).length ++ [n] ++ l.drop (l.takeWhile (fun x => decide (x < n))).length
theorem tw_len {l : List Int} {n : Int} {k : Nat} (h : ∀ x ∈ l.take k, x < n) (hk : k ≤ l.length) (he : l.length ≤ k ∨ ∃ x, l[k]? = some x ∧ ¬ x < n) : (l.takeWhile (fun x => decide (x < n))).length = k := by
  induction l generalizing k with
  | nil => simp at hk ⊢; exact hk.symm
  | cons y l ih =>
    cases k with
    | zero =>
      rcases he with he | ⟨x, hx, hn⟩
      · simp at he
      · simp at hx; subst hx; simp [hn]
    | succ k =>
      have hy : y < n := h y (by simp)
      simp only [List.takeWhile_cons, hy, decide_true, if_true, List.length_cons]
      rw [ih (k := k) (fun x hx => h x (by simp only [List.take_succ_cons]; exact List.mem_cons_of_mem _ hx)) (by simpa using hk) (he.imp (by simp) (fun ⟨x, hx, hn⟩ => ⟨x, by simpa using hx, hn⟩))]
theorem all_lt_snoc {l : List Int} {n : Int} {k : Nat} {x : Int} (h : ∀ y ∈ l.take k, y < n) (hx : l[k]? = some x) (hn : x < n) : ∀ y ∈ l.take (k + 1), y < n := by
  rw [snoc_get hx]
  intro y hy
  rcases List.mem_append.1 hy with hy | hy
  · exact h y hy
  · obtain rfl := List.mem_singleton.1 hy; exact hn
theorem put_there {l : List Int} {n : Int} {k : Nat} {x : Int} (h : ∀ y ∈ l.take k, y < n) (hx : l[k]? = some x) (hn : ¬ x < n) (e : x = n) : putW l n = l := by
  have hk := (List.getElem?_eq_some_iff.1 hx).1
  unfold putW
  rw [tw_len h (by omega) (.inr ⟨x, hx, hn⟩), if_pos (by rw [hx, e])]
theorem put_in {l : List Int} {n : Int} {k : Nat} {x : Int} (h : ∀ y ∈ l.take k, y < n) (hx : l[k]? = some x) (hn : ¬ x < n) (e : ¬ x = n) : putW l n = l.take k ++ [n] ++ l.drop k := by
  have hk := (List.getElem?_eq_some_iff.1 hx).1
  unfold putW
  rw [tw_len h (by omega) (.inr ⟨x, hx, hn⟩), if_neg (by rw [hx]; simpa using e)]
theorem put_end {l : List Int} {n : Int} {k : Nat} (h : ∀ y ∈ l.take k, y < n) (hk : k ≤ l.length) (hl : ¬ (k : Int) < (l.length : Int)) : putW l n = l.take k ++ [n] ++ l.drop k := by
  unfold putW
  rw [tw_len h hk (.inl (by omega)), if_neg (by rw [List.getElem?_eq_none (by omega)]; simp)]
theorem mem_bad {l : List Int} {n : Int} {k : Nat} {x : Int} (hx : l[k]? = some x) (e : x = n) : decide (n ∈ l) = true := by
  simp only [decide_eq_true_eq]; exact e ▸ List.mem_of_getElem? hx
theorem ne_snoc {l : List Int} {n : Int} {k : Nat} {x : Int} (h : ∀ y ∈ l.take k, y ≠ n) (hx : l[k]? = some x) (hn : ¬ x = n) : ∀ y ∈ l.take (k + 1), y ≠ n := by
  rw [snoc_get hx]
  intro y hy
  rcases List.mem_append.1 hy with hy | hy
  · exact h y hy
  · obtain rfl := List.mem_singleton.1 hy; exact hn
theorem mem_end {l : List Int} {n : Int} {k : Nat} (h : ∀ y ∈ l.take k, y ≠ n) (hl : ¬ (k : Int) < (l.length : Int)) : decide (n ∈ l) = false := by
  rw [take_all hl] at h
  simp only [decide_eq_false_iff_not]; exact fun hm => h n hm rfl

theorem put_nil {n : Int} : putW [] n = [n] := by simp [putW]
theorem put_cons {y n : Int} {l : List Int} : putW (y :: l) n = if y < n then y :: putW l n else if y = n then y :: l else n :: y :: l := by
  unfold putW
  by_cases h : y < n
  · simp only [List.takeWhile_cons, h, decide_true, if_true, List.length_cons, List.getElem?_cons_succ, List.take_succ_cons, List.drop_succ_cons]
    split <;> simp
  · simp only [List.takeWhile_cons, h, decide_false, Bool.false_eq_true, if_false, List.length_nil, List.getElem?_cons_zero, Option.some.injEq, List.take_zero, List.drop_zero]
    split <;> simp
theorem put_mem {n x : Int} {l : List Int} : x ∈ putW l n ↔ x ∈ l ∨ x = n := by
  induction l with
  | nil => simp [put_nil]
  | cons y l ih =>
    rw [put_cons]
    split
    · simp only [List.mem_cons, ih]
      constructor
      · rintro (h | h | h) <;> simp [h]
      · rintro ((h | h) | h) <;> simp [h]
    · split
      · rename_i h; subst h
        simp only [List.mem_cons]
        constructor
        · intro h; exact .inl h
        · rintro (h | h)
          · exact h
          · exact .inl h
      · simp only [List.mem_cons]
        constructor
        · rintro (h | h | h) <;> simp [h]
        · rintro ((h | h) | h) <;> simp [h]
theorem put_lt {n : Int} {l : List Int} (h : l.Pairwise (· < ·)) : (putW l n).Pairwise (· < ·) := by
  induction l with
  | nil => simp [put_nil]
  | cons y l ih =>
    obtain ⟨h1, h2⟩ := List.pairwise_cons.1 h
    rw [put_cons]
    split
    · rename_i hy
      refine List.pairwise_cons.2 ⟨fun x hx => ?_, ih h2⟩
      rcases put_mem.1 hx with hx | hx
      · exact h1 x hx
      · omega
    · split
      · exact h
      · refine List.pairwise_cons.2 ⟨fun x hx => ?_, h⟩
        rcases List.mem_cons.1 hx with hx | hx
        · omega
        · have := h1 x hx; omega
theorem put_len {n : Int} {l : List Int} : (putW l n).length ≤ l.length + 1 := by
  induction l with
  | nil => simp [put_nil]
  | cons y l ih =>
    rw [put_cons]
    split
    · simp only [List.length_cons]; omega
    · split <;> simp
theorem fold_lt (l : List Int) : ∀ a : List Int, a.Pairwise (· < ·) → (l.foldl putW a).Pairwise (· < ·) := by
  induction l with
  | nil => exact fun a h => h
  | cons y l ih => exact fun a h => ih _ (put_lt h)
theorem fold_mem {x : Int} (l : List Int) : ∀ a : List Int, x ∈ l.foldl putW a ↔ x ∈ a ∨ x ∈ l := by
  induction l with
  | nil => intro a; simp
  | cons y l ih =>
    intro a
    rw [List.foldl_cons, ih, put_mem, List.mem_cons, or_assoc]
theorem fold_len (l : List Int) : ∀ a : List Int, (l.foldl putW a).length ≤ a.length + l.length := by
  induction l with
  | nil => intro a; simp
  | cons y l ih =>
    intro a
    have h1 := ih (putW a y)
    have h2 := put_len (n := y) (l := a)
    rw [List.foldl_cons, List.length_cons]; omega
theorem lt_ext : ∀ {a b : List Int}, a.Pairwise (· < ·) → b.Pairwise (· < ·) → (∀ x, x ∈ a ↔ x ∈ b) → a = b
  | [], [], _, _, _ => rfl
  | [], y :: b, _, _, h => absurd ((h y).2 (by simp)) (by simp)
  | x :: a, [], _, _, h => absurd ((h x).1 (by simp)) (by simp)
  | x :: a, y :: b, ha, hb, h => by
    obtain ⟨ha1, ha2⟩ := List.pairwise_cons.1 ha
    obtain ⟨hb1, hb2⟩ := List.pairwise_cons.1 hb
    have e : x = y := by
      rcases List.mem_cons.1 ((h x).1 (by simp)) with h1 | h1
      · exact h1
      · rcases List.mem_cons.1 ((h y).2 (by simp)) with h2 | h2
        · exact h2.symm
        · have := hb1 x h1; have := ha1 y h2; omega
    subst e
    rw [lt_ext ha2 hb2 fun z => ⟨fun hz => ?_, fun hz => ?_⟩]
    · rcases List.mem_cons.1 ((h z).1 (List.mem_cons_of_mem _ hz)) with h1 | h1
      · have := ha1 z hz; omega
      · exact h1
    · rcases List.mem_cons.1 ((h z).2 (List.mem_cons_of_mem _ hz)) with h1 | h1
      · have := hb1 z hz; omega
      · exact h1
theorem comp_to {zs : List Int} (hs : zs.Pairwise (· ≤ ·)) : ∀ m, m ≤ zs.length → (Lib.compactUpTo zs.toArray m).Pairwise (· < ·) ∧ ∀ x, x ∈ Lib.compactUpTo zs.toArray m ↔ x ∈ zs.take m := by
  intro m
  induction m with
  | zero => intro _; simp [Lib.compactUpTo]
  | succ m ih =>
    intro hm
    obtain ⟨h1, h2⟩ := ih (by omega)
    have hmz : m < zs.length := by omega
    have hg : zs.toArray[m]! = zs[m] := by rw [getElem!_pos zs.toArray m (by simpa using hmz)]; simp
    have ht : zs.take (m + 1) = zs.take m ++ [zs[m]] := by rw [List.take_succ, List.getElem?_eq_getElem hmz]; rfl
    rw [Lib.compactUpTo_succ, ht, hg]
    by_cases hk : Lib.keeps zs.toArray m = true
    · rw [if_pos hk]
      refine ⟨?_, fun x => by rw [List.mem_append, List.mem_append, h2]⟩
      rw [List.pairwise_append]
      refine ⟨h1, by simp, fun x hx y hy => ?_⟩
      obtain rfl := List.mem_singleton.1 hy
      obtain ⟨j, hj, rfl⟩ := List.getElem_of_mem ((h2 x).1 hx)
      have hj' : j < m := by simp at hj; omega
      rw [List.getElem_take]
      have hm1 : m - 1 < zs.length := by omega
      have hg1 : zs.toArray[m - 1]! = zs[m - 1] := by rw [getElem!_pos zs.toArray (m - 1) (by simpa using hm1)]; simp
      simp only [Lib.keeps, decide_eq_true_eq, hg, hg1] at hk
      have hle : zs[m - 1] ≤ zs[m] := List.pairwise_iff_getElem.1 hs (m - 1) m hm1 hmz (by omega)
      have hlj : zs[j] ≤ zs[m - 1] := by
        by_cases e : j = m - 1
        · subst e; exact Int.le_refl _
        · exact List.pairwise_iff_getElem.1 hs j (m - 1) (by omega) hm1 (by omega)
      rcases hk with hk | hk <;> omega
    · rw [if_neg hk, List.append_nil]
      refine ⟨h1, fun x => ?_⟩
      simp only [Lib.keeps, decide_eq_true_eq] at hk
      have hm0 : 0 < m := by omega
      have hm1 : m - 1 < zs.length := by omega
      have hg1 : zs.toArray[m - 1]! = zs[m - 1] := by rw [getElem!_pos zs.toArray (m - 1) (by simpa using hm1)]; simp
      have e : zs[m] = zs[m - 1] := by
        rw [hg, hg1] at hk
        exact Classical.byContradiction fun hc => hk (.inr hc)
      rw [h2, List.mem_append, List.mem_singleton]
      constructor
      · exact .inl
      · rintro (h | h)
        · exact h
        · rw [h, e, List.mem_take_iff_getElem]
          exact ⟨m - 1, by omega, rfl⟩
theorem compact_sort (l : List Int) : Lib.compact (l.mergeSort fun x y => decide (x ≤ y)) = l.foldl putW [] := by
  have hp : (l.mergeSort fun x y => decide (x ≤ y)).Pairwise (· ≤ ·) := by
    have := List.pairwise_mergeSort (le := fun (x y : Int) => decide (x ≤ y)) (by intro a b c; simp; omega) (by intro a b; simp; omega) l
    exact this.imp fun h => by simpa using h
  have h := comp_to hp _ (Nat.le_refl _)
  refine lt_ext h.1 (fold_lt l [] List.Pairwise.nil) fun x => ?_
  show x ∈ Lib.compactUpTo _ _ ↔ _
  rw [h.2, List.take_length, fold_mem, List.mem_mergeSort]
  simp
noncomputable def msgOut (l : List PkP) : List Int × Bool := if PksOk l then ((l.map PkP.message).foldl putW [], true) else ([], false)
theorem msg_no {l : List PkP} (h : ¬ PksOk l) : msgOut l = ([], false) := by rw [msgOut, if_neg h]
theorem msg_yes {l : List PkP} (h : PksOk l) : msgOut l = ((l.map PkP.message).foldl putW [], true) := by rw [msgOut, if_pos h]
theorem msg_sort {l : List Pk} {o : List Int} (h : PksOk (l.map Pk.p)) (ho : o = l.map Pk.message) : (Lib.compact (o.mergeSort fun x y => decide (x ≤ y)), true) = msgOut (l.map Pk.p) := by
  rw [msg_yes h, compact_sort, ho, List.map_map]; rfl
theorem msg_len (l : List PkP) : (msgOut l).1.length ≤ 40 := by
  unfold msgOut
  split
  · rename_i h
    have h1 := fold_len (l.map PkP.message) []
    have h2 := h.1
    simp at h1 ⊢; omega
  · simp
theorem msg_step {l : List Pk} {k : Nat} {x : Pk} {o : List Int} (ho : o = (l.take k).map Pk.message) (hx : l[k]? = some x) : o ++ [x.message] = (l.take (k + 1)).map Pk.message := by
  rw [snoc_get hx, ho]; simp
theorem msg_put {l : List Pk} {k : Nat} {x : Pk} {o : List Int} (ho : o = ((l.take k).map Pk.message).foldl putW []) (hx : l[k]? = some x) : putW o x.message = ((l.take (k + 1)).map Pk.message).foldl putW [] := by
  rw [snoc_get hx, ho]; simp
theorem msg_put_len {l : List Pk} {k : Nat} : (((l.take k).map Pk.message).foldl putW []).length ≤ l.length := by
  have := fold_len ((l.take k).map Pk.message) []
  simp only [List.length_nil, List.length_map, List.length_take] at this; omega
theorem msg_end {l : List Pk} {o : List Int} (h : PksOk (l.map Pk.p)) (ho : o = (l.map Pk.message).foldl putW []) : (o, true) = msgOut (l.map Pk.p) := by
  rw [msg_yes h, ho, List.map_map]; rfl
end Go.Proofs.Ytjmcijcdncgaiaa
