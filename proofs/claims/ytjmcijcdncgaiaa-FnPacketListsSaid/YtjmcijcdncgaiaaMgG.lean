/- Pk8, SortI, SortILay, Pk9. Condition: none. -/
import Derived.Test.YtjmcijcdncgaiaaMgA
import Derived.Lib.SlicesCompact
import Derived.Test.YtjmcijcdncgaiaaStep2
import Derived.Shelf.Sort.Plain
import Derived.Shelf.Slices.In.SortNone
import Derived.Shelf.Slices.CompactI
import Derived.Lib.RowBridge
import Derived.Test.YtjmcijcdncgaiaaProg
import Derived.KernelRfl
/- The messages of some packets: plain laws (strictly growing lists, put, sort and compact). Condition: none. -/
namespace Go.Proofs.Ytjmcijcdncgaiaa
open Go.Vc
set_option linter.all false

def putW (l : List Int) (n : Int) : List Int := if l[(l.takeWhile (fun x => decide (x < n))).length]? = some n then l else l.take (l.takeWhile (fun x => decide (x < n))).length ++ [n] ++ l.drop (l.takeWhile (fun x => decide (x < n))).length
theorem tw_len {l : List Int} {n : Int} {k : Nat} (h : ∀ x ∈ l.take k, x < n) (hk : k ≤ l.length) (he : l.length ≤ k ∨ ∃ x, l[k]? = some x ∧ ¬ x < n) : (l.takeWhile (fun x => decide (x < n))).length = k := by
  induction l generalizing k with
  | nil => simp at hk ⊢; exact hk.symm
  | cons y l ih =>
    cases k with
    | zero =>
      rcases he with he | ⟨x, hx, hn⟩
      · simp at he
      · simp at hx; subst hx; simp [hn]
    | succ k =>
      have hy : y < n := h y (by simp)
      simp only [List.takeWhile_cons, hy, decide_true, if_true, List.length_cons]
      rw [ih (k := k) (fun x hx => h x (by simp only [List.take_succ_cons]; exact List.mem_cons_of_mem _ hx)) (by simpa using hk) (he.imp (by simp) (fun ⟨x, hx, hn⟩ => ⟨x, by simpa using hx, hn⟩))]
theorem all_lt_snoc {l : List Int} {n : Int} {k : Nat} {x : Int} (h : ∀ y ∈ l.take k, y < n) (hx : l[k]? = some x) (hn : x < n) : ∀ y ∈ l.take (k + 1), y < n := by
  rw [snoc_get hx]
  intro y hy
  rcases List.mem_append.1 hy with hy | hy
  · exact h y hy
  · obtain rfl := List.mem_singleton.1 hy; exact hn
theorem put_there {l : List Int} {n : Int} {k : Nat} {x : Int} (h : ∀ y ∈ l.take k, y < n) (hx : l[k]? = some x) (hn : ¬ x < n) (e : x = n) : putW l n = l := by
 have hk := (List.getElem?_eq_some_iff.1 hx).1
 unfold putW
 rw [tw_len h (by omega) (.inr ⟨x, hx, hn⟩), if_pos (by rw [hx, e])]
theorem put_in {l : List Int} {n : Int} {k : Nat} {x : Int} (h : ∀ y ∈ l.take k, y < n) (hx : l[k]? = some x) (hn : ¬ x < n) (e : ¬ x = n) : putW l n = l.take k ++ [n] ++ l.drop k := by
 have hk := (List.getElem?_eq_some_iff.1 hx).1
 unfold putW
 rw [tw_len h (by omega) (.inr ⟨x, hx, hn⟩), if_neg (by rw [hx]; simpa using e)]
theorem put_end {l : List Int} {n : Int} {k : Nat} (h : ∀ y ∈ l.take k, y < n) (hk : k ≤ l.length) (hl : ¬ (k : Int) < (l.length : Int)) : putW l n = l.take k ++ [n] ++ l.drop k := by
 unfold putW
 rw [tw_len h hk (.inl (by omega)), if_neg (by rw [List.getElem?_eq_none (by omega)]; simp)]
theorem put_nil {n : Int} : putW [] n = [n] := by simp [putW]
theorem put_cons {y n : Int} {l : List Int} : putW (y :: l) n = if y < n then y :: putW l n else if y = n then y :: l else n :: y :: l := by
  unfold putW
  by_cases h : y < n
  · simp only [List.takeWhile_cons, h, decide_true, if_true, List.length_cons, List.getElem?_cons_succ, List.take_succ_cons, List.drop_succ_cons]
    split <;> simp
  · simp only [List.takeWhile_cons, h, decide_false, Bool.false_eq_true, if_false, List.length_nil, List.getElem?_cons_zero, Option.some.injEq, List.take_zero, List.drop_zero]
    split <;> simp
theorem put_mem {n x : Int} {l : List Int} : x ∈ putW l n ↔ x ∈ l ∨ x = n := by
  induction l with
  | nil => simp [put_nil]
  | cons y l ih =>
    rw [put_cons]
    split
    · simp only [List.mem_cons, ih]
      constructor
      · rintro (h | h | h) <;> simp [h]
      · rintro ((h | h) | h) <;> simp [h]
    · split
      · rename_i h; subst h
        simp only [List.mem_cons]
        constructor
        · intro h; exact .inl h
        · rintro (h | h)
          · exact h
          · exact .inl h
      · simp only [List.mem_cons]
        constructor
        · rintro (h | h | h) <;> simp [h]
        · rintro ((h | h) | h) <;> simp [h]
theorem put_lt {n : Int} {l : List Int} (h : l.Pairwise (· < ·)) : (putW l n).Pairwise (· < ·) := by
  induction l with
  | nil => simp [put_nil]
  | cons y l ih =>
    obtain ⟨h1, h2⟩ := List.pairwise_cons.1 h
    rw [put_cons]
    split
    · rename_i hy
      refine List.pairwise_cons.2 ⟨fun x hx => ?_, ih h2⟩
      rcases put_mem.1 hx with hx | hx
      · exact h1 x hx
      · omega
    · split
      · exact h
      · refine List.pairwise_cons.2 ⟨fun x hx => ?_, h⟩
        rcases List.mem_cons.1 hx with hx | hx
        · omega
        · have := h1 x hx; omega
theorem put_len {n : Int} {l : List Int} : (putW l n).length ≤ l.length + 1 := by
  induction l with
  | nil => simp [put_nil]
  | cons y l ih =>
    rw [put_cons]
    split
    · simp only [List.length_cons]; omega
    · split <;> simp
theorem fold_lt (l : List Int) : ∀ a : List Int, a.Pairwise (· < ·) → (l.foldl putW a).Pairwise (· < ·) := by
  induction l with
  | nil => exact fun a h => h
  | cons y l ih => exact fun a h => ih _ (put_lt h)
theorem fold_mem {x : Int} (l : List Int) : ∀ a : List Int, x ∈ l.foldl putW a ↔ x ∈ a ∨ x ∈ l := by
  induction l with
  | nil => intro a; simp
  | cons y l ih =>
    intro a
    rw [List.foldl_cons, ih, put_mem, List.mem_cons, or_assoc]
theorem fold_len (l : List Int) : ∀ a : List Int, (l.foldl putW a).length ≤ a.length + l.length := by
  induction l with
  | nil => intro a; simp
  | cons y l ih =>
    intro a
    have h1 := ih (putW a y)
    have h2 := put_len (n := y) (l := a)
    rw [List.foldl_cons, List.length_cons]; omega
theorem lt_ext : ∀ {a b : List Int}, a.Pairwise (· < ·) → b.Pairwise (· < ·) → (∀ x, x ∈ a ↔ x ∈ b) → a = b
  | [], [], _, _, _ => rfl
  | [], y :: b, _, _, h => absurd ((h y).2 (by simp)) (by simp)
  | x :: a, [], _, _, h => absurd ((h x).1 (by simp)) (by simp)
  | x :: a, y :: b, ha, hb, h => by
    obtain ⟨ha1, ha2⟩ := List.pairwise_cons.1 ha
    obtain ⟨hb1, hb2⟩ := List.pairwise_cons.1 hb
    have e : x = y := by
      rcases List.mem_cons.1 ((h x).1 (by simp)) with h1 | h1
      · exact h1
      · rcases List.mem_cons.1 ((h y).2 (by simp)) with h2 | h2
        · exact h2.symm
        · have := hb1 x h1; have := ha1 y h2; omega
    subst e
    rw [lt_ext ha2 hb2 fun z => ⟨fun hz => ?_, fun hz => ?_⟩]
    · rcases List.mem_cons.1 ((h z).1 (List.mem_cons_of_mem _ hz)) with h1 | h1
      · have := ha1 z hz; omega
      · exact h1
    · rcases List.mem_cons.1 ((h z).2 (List.mem_cons_of_mem _ hz)) with h1 | h1
      · have := hb1 z hz; omega
      · exact h1
theorem comp_to {zs : List Int} (hs : zs.Pairwise (· ≤ ·)) : ∀ m, m ≤ zs.length → (Lib.compactUpTo zs.toArray m).Pairwise (· < ·) ∧ ∀ x, x ∈ Lib.compactUpTo zs.toArray m ↔ x ∈ zs.take m := by
  intro m
  induction m with
  | zero => intro _; simp [Lib.compactUpTo]
  | succ m ih =>
    intro hm
    obtain ⟨h1, h2⟩ := ih (by omega)
    have hmz : m < zs.length := by omega
    have hg : zs.toArray[m]! = zs[m] := by rw [getElem!_pos zs.toArray m (by simpa using hmz)]; simp
    have ht : zs.take (m + 1) = zs.take m ++ [zs[m]] := by rw [List.take_succ, List.getElem?_eq_getElem hmz]; rfl
    rw [Lib.compactUpTo_succ, ht, hg]
    by_cases hk : Lib.keeps zs.toArray m = true
    · rw [if_pos hk]
      refine ⟨?_, fun x => by rw [List.mem_append, List.mem_append, h2]⟩
      rw [List.pairwise_append]
      refine ⟨h1, by simp, fun x hx y hy => ?_⟩
      obtain rfl := List.mem_singleton.1 hy
      obtain ⟨j, hj, rfl⟩ := List.getElem_of_mem ((h2 x).1 hx)
      have hj' : j < m := by simp at hj; omega
      rw [List.getElem_take]
      have hm1 : m - 1 < zs.length := by omega
      have hg1 : zs.toArray[m - 1]! = zs[m - 1] := by rw [getElem!_pos zs.toArray (m - 1) (by simpa using hm1)]; simp
      simp only [Lib.keeps, decide_eq_true_eq, hg, hg1] at hk
      have hle : zs[m - 1] ≤ zs[m] := List.pairwise_iff_getElem.1 hs (m - 1) m hm1 hmz (by omega)
      have hlj : zs[j] ≤ zs[m - 1] := by
        by_cases e : j = m - 1
        · subst e; exact Int.le_refl _
        · exact List.pairwise_iff_getElem.1 hs j (m - 1) (by omega) hm1 (by omega)
      rcases hk with hk | hk <;> omega
    · rw [if_neg hk, List.append_nil]
      refine ⟨h1, fun x => ?_⟩
      simp only [Lib.keeps, decide_eq_true_eq] at hk
      have hm0 : 0 < m := by omega
      have hm1 : m - 1 < zs.length := by omega
      have hg1 : zs.toArray[m - 1]! = zs[m - 1] := by rw [getElem!_pos zs.toArray (m - 1) (by simpa using hm1)]; simp
      have e : zs[m] = zs[m - 1] := by
        rw [hg, hg1] at hk
        exact Classical.byContradiction fun hc => hk (.inr hc)
      rw [h2, List.mem_append, List.mem_singleton]
      constructor
      · exact .inl
      · rintro (h | h)
        · exact h
        · rw [h, e, List.mem_take_iff_getElem]
          exact ⟨m - 1, by omega, rfl⟩
theorem compact_sort (l : List Int) : Lib.compact (l.mergeSort fun x y => decide (x ≤ y)) = l.foldl putW [] := by
 have hp : (l.mergeSort fun x y => decide (x ≤ y)).Pairwise (· ≤ ·) := by
  have := List.pairwise_mergeSort (le := fun (x y : Int) => decide (x ≤ y)) (by intro a b c; simp; omega) (by intro a b; simp; omega) l
  exact this.imp fun h => by simpa using h
 have h := comp_to hp _ (Nat.le_refl _)
 refine lt_ext h.1 (fold_lt l [] List.Pairwise.nil) fun x => ?_
 show x ∈ Lib.compactUpTo _ _ ↔ _
 rw [h.2, List.take_length, fold_mem, List.mem_mergeSort]
 simp
noncomputable def msgOut (l : List PkP) : List Int × Bool := if PksOk l then ((l.map PkP.message).foldl putW [], true) else ([], false)
theorem msg_no {l : List PkP} (h : ¬ PksOk l) : msgOut l = ([], false) := by rw [msgOut, if_neg h]
theorem msg_yes {l : List PkP} (h : PksOk l) : msgOut l = ((l.map PkP.message).foldl putW [], true) := by rw [msgOut, if_pos h]
theorem msg_sort {l : List Pk} {o : List Int} (h : PksOk (l.map Pk.p)) (ho : o = l.map Pk.message) : (Lib.compact (o.mergeSort fun x y => decide (x ≤ y)), true) = msgOut (l.map Pk.p) := by
 rw [msg_yes h, compact_sort, ho, List.map_map]; rfl
theorem msg_step {l : List Pk} {k : Nat} {x : Pk} {o : List Int} (ho : o = (l.take k).map Pk.message) (hx : l[k]? = some x) : o ++ [x.message] = (l.take (k + 1)).map Pk.message := by
 rw [snoc_get hx, ho]; simp
theorem msg_put {l : List Pk} {k : Nat} {x : Pk} {o : List Int} (ho : o = ((l.take k).map Pk.message).foldl putW []) (hx : l[k]? = some x) : putW o x.message = ((l.take (k + 1)).map Pk.message).foldl putW [] := by
 rw [snoc_get hx, ho]; simp
theorem msg_put_len {l : List Pk} {k : Nat} : (((l.take k).map Pk.message).foldl putW []).length ≤ l.length := by
 have := fold_len ((l.take k).map Pk.message) []
 simp only [List.length_nil, List.length_map, List.length_take] at this; omega
theorem msg_end {l : List Pk} {o : List Int} (h : PksOk (l.map Pk.p)) (ho : o = (l.map Pk.message).foldl putW []) : (o, true) = msgOut (l.map Pk.p) := by
 rw [msg_yes h, ho, List.map_map]; rfl
end Go.Proofs.Ytjmcijcdncgaiaa


/- slices.Sort and slices.Compact at ints, out of the library's contracts, as contracts of this layer. Condition: none. -/
namespace Go.Vc
open Go.Shelf Go.Sort Go.Proofs
set_option linter.all false

theorem flat_ints (xs : List Int) : flat xs = xs.map (Value.int .i64) := by
  induction xs with
  | nil => rfl
  | cons x xs ih => rw [List.map_cons, ← ih]; rfl
theorem putI_get (F : Array Int) (C : Array Value) (off k : Nat) : (putCells (Value.int .i64) off F C)[k]? = (C[k]?).map fun x => if off ≤ k ∧ k < off + F.size then .int .i64 F[k - off]! else x := by
 simp [putCells]
theorem windowI {C : List Value} {o n : Nat} {l : List Value} (h : (C.drop o).take n = l) {j : Nat} (hj : j < n) : C[o + j]? = l[j]? := by
 rw [← h, List.getElem?_take_of_lt hj, List.getElem?_drop]
theorem holdsI_of {w : World} {xs : List Int} {b o n c : Nat} (hs : SlO w.heap (.slice (some ⟨b, o, none⟩) n c) xs) (hne : xs ≠ []) : Holds (Value.int .i64) w b o xs.toArray := by
  obtain ⟨a', c', hv, hs⟩ := hs
  simp only [Value.slice.injEq] at hv
  obtain ⟨rfl, rfl, rfl⟩ := hv
  rcases hs with ⟨rfl, _⟩ | ⟨ad, had, h0, h1, h2, h3, C, T, fz, h4, h5, h6, h7⟩
  · exact absurd rfl hne
  · obtain rfl := Option.some.inj had
    obtain rfl := h5 rfl
    simp only at h4 h6 h7
    rw [show Enc.sz Int = 1 from rfl, Nat.mul_one, flat_ints] at h7
    intro j hj
    have hj' : j < xs.length := by simpa using hj
    have hcell : w.cell? ⟨b, o + j, none⟩ = C[o + j]? := by
      show hcell w.heap _ = _
      simp [hcell, h4]
    refine ⟨?_, by simp [World.frozen?, h4]⟩
    rw [hcell, ← Array.getElem?_toList, windowI h7 hj', List.getElem?_map, List.getElem?_eq_getElem hj', getElem!_pos xs.toArray j hj]
    simp
theorem slI_put {h : Heap} {xs ys : List Int} {b o n c : Nat} (hs : SlO h (.slice (some ⟨b, o, none⟩) n c) xs) (hne : xs ≠ []) (hl : ys.length = xs.length) (os : Array Obj) :
    SlO ((h.modify b (onCells (putCells (Value.int .i64) o ys.toArray))) ++ os) (.slice (some ⟨b, o, none⟩) n c) ys := by
  obtain ⟨a', c', hv, hs⟩ := hs
  simp only [Value.slice.injEq] at hv
  obtain ⟨rfl, rfl, rfl⟩ := hv
  rcases hs with ⟨rfl, _⟩ | ⟨ad, had, h0, h1, h2, h3, C, T, fz, h4, h5, h6, h7⟩
  · exact absurd rfl hne
  · obtain rfl := Option.some.inj had
    obtain rfl := h5 rfl
    simp only at h4 h6 h7
    have hb := (Array.getElem?_eq_some_iff.1 h4).1
    refine ⟨some ⟨b, o, none⟩, c, by rw [hl], .inr ⟨_, rfl, h0, rfl, by rw [hl]; exact h2, h3, putCells (Value.int .i64) o ys.toArray C, T, (0, 0), ?_, fun _ => rfl, by simpa [putCells] using h6, ?_⟩⟩
    · simp only
      rw [Array.getElem?_append_left (by simpa using hb), Array.getElem?_modify]
      simp [h4, onCells]
    · simp only
      have hs1 : Enc.sz Int = 1 := rfl
      rw [hs1] at h6
      rw [hs1, Nat.mul_one, flat_ints]
      apply List.ext_getElem?
      intro j
      by_cases hj : j < ys.length
      · rw [List.getElem?_take_of_lt hj, List.getElem?_drop, Array.getElem?_toList, putI_get, Array.getElem?_eq_getElem (by omega), Option.map_some, if_pos (by simp; omega), Nat.add_sub_cancel_left, List.getElem?_map, List.getElem?_eq_getElem hj, getElem!_pos _ _ (by simpa using hj)]
        simp
      · rw [List.getElem?_eq_none (by simp; omega), List.getElem?_eq_none (by simp; omega)]
theorem mod_putI {h : Heap} {b : Nat} {f : Array Value → Array Value} {os : Array Obj} : Mod [b] h ((h.modify b (onCells f)) ++ os) := by
 refine ⟨by simp, fun i hi hn => ?_⟩
 rw [Array.getElem?_append_left (by simpa using hi), Array.getElem?_modify, if_neg (by simp at hn; omega)]
theorem cutI {h : Heap} {xs : List Int} {a : Option Addr} {n c m : Nat} (hs : SlO h (.slice a n c) xs) (hm : m ≤ xs.length) : SlO h (.slice a m c) (xs.take m) := by
  obtain ⟨a', c', hv, hs⟩ := hs
  simp only [Value.slice.injEq] at hv
  obtain ⟨rfl, rfl, rfl⟩ := hv
  have hl : (xs.take m).length = m := by simp; omega
  refine ⟨a, c, by rw [hl], ?_⟩
  rcases hs with ⟨rfl, rfl⟩ | ⟨ad, h0, h1, h2, h3, h4, C, T, fz, h5, h6, h7, h8⟩
  · left; simp
  · right
    refine ⟨ad, h0, h1, h2, by omega, h4, C, T, fz, h5, h6, h7, ?_⟩
    have hle : m * Enc.sz Int ≤ xs.length * Enc.sz Int := Nat.mul_le_mul_right _ hm
    rw [hl, flat_take, ← h8, List.take_take, Nat.min_eq_left hle]
theorem sortInts_gen {P : Program} {ρ : Ren} (L : Lays.n189 P ρ) {f : FuncId} (hf : f = ρ.f 189) (hfn : ∃ fn, P.funcs[f]? = some fn ∧ fn.body.isSome = true ∧ (fn.name == "runtime.NumGoroutine") = false)
    (v : Value) (xs : List Int) (h : Heap) (hs : SlO h v xs) (hl : xs.length ≤ 1000000) :
    CallsH P f [v] h fun r h' => r = .tuple #[] ∧ SlO h' v (xs.mergeSort fun x y => decide (x ≤ y)) ∧ Mod (blks v) h h' := by
  refine ⟨hfn, fun w hw => ?_⟩
  subst hw
  obtain ⟨a, c, rfl⟩ := hs.shape
  by_cases hne : xs = []
  · subst hne
    have hm := Any.slices_Sort_int_none L a c w
    rw [← hf] at hm
    refine hm.mono ?_
    rintro e w' ⟨rfl, rfl⟩
    exact ⟨_, rfl, Sim.refl _, rfl, by simpa using hs, Mod.refl _ _⟩
  have hs0 := hs
  obtain ⟨a', c', hv, hs'⟩ := hs
  simp only [Value.slice.injEq] at hv
  obtain ⟨rfl, -, rfl⟩ := hv
  rcases hs' with ⟨rfl, _⟩ | ⟨ad, rfl, h0, h1, h2, h3, C, T, fz, h4, h5, h6, h7⟩
  · exact absurd rfl hne
  obtain ⟨b, o, s⟩ := ad
  simp only at h1 h4 h6 h7
  subst h1
  have hb := (Array.getElem?_eq_some_iff.1 h4).1
  have hm := Any.slices_Sort_int L b o c xs w (holdsI_of hs0 hne) hb (by omega)
  rw [← hf] at hm
  refine hm.mono ?_
  rintro e w' ⟨rfl, n, os, rfl⟩
  refine ⟨_, rfl, ⟨rfl, rfl, rfl, Nat.le_add_right _ _⟩, rfl, ?_, ?_⟩
  · exact slI_put hs0 hne (by simp) os
  · rw [blks_pos h0]; exact mod_putI
theorem compactInts_gen {P : Program} {ρ : Ren} (L : Lays2.n20 P ρ) {f : FuncId} (hf : f = ρ.f 20) (hfn : ∃ fn, P.funcs[f]? = some fn ∧ fn.body.isSome = true ∧ (fn.name == "runtime.NumGoroutine") = false)
    (v : Value) (xs : List Int) (h : Heap) (hs : SlO h v xs) (hl : xs.length ≤ 1000000) :
    CallsH P f [v] h fun r h' => SlO h' r (Lib.compact xs) ∧ Mod (blks v) h h' ∧ ∀ b ∈ blks r, b ∈ blks v ∨ h.size ≤ b := by
  refine ⟨hfn, fun w hw => ?_⟩
  subst hw
  obtain ⟨a, c, rfl⟩ := hs.shape
  by_cases hne : xs = []
  · subst hne
    have hm := Any.slices_Compact_int_empty L a c w
    rw [← hf] at hm
    refine hm.mono ?_
    rintro e w' ⟨rfl, rfl⟩
    exact ⟨_, rfl, Sim.refl _, hs, Mod.refl _ _, fun b hb => .inl hb⟩
  have hs0 := hs
  obtain ⟨a', c', hv, hs'⟩ := hs
  simp only [Value.slice.injEq] at hv
  obtain ⟨rfl, -, rfl⟩ := hv
  rcases hs' with ⟨rfl, _⟩ | ⟨ad, rfl, h0, h1, h2, h3, C, T, fz, h4, h5, h6, h7⟩
  · exact absurd rfl hne
  obtain ⟨b, o, s⟩ := ad
  simp only at h1 h4 h6 h7
  subst h1
  have hb := (Array.getElem?_eq_some_iff.1 h4).1
  have hm := Any.slices_Compact_int L b o c xs w (holdsI_of hs0 hne) (by omega) h2
  rw [← hf] at hm
  refine hm.mono ?_
  rintro e w' ⟨rfl, q, rfl⟩
  have hle : (Lib.compact xs).length ≤ xs.length := Lib.compact_length_le xs
  have hp := slI_put hs0 hne (ys := Lib.compact xs ++ List.replicate (xs.length - (Lib.compact xs).length) 0) (by simp; omega) #[]
  have hc := cutI hp (m := (Lib.compact xs).length) (by simp)
  simp only [List.take_left', Array.append_empty] at hc
  refine ⟨_, rfl, ⟨rfl, rfl, rfl, Nat.le_add_right _ _⟩, hc, ?_, ?_⟩
  · rw [blks_pos h0]
    have hmm := mod_putI (h := w.heap) (b := b) (f := putCells (Value.int .i64) o (Lib.compact xs ++ List.replicate (xs.length - (Lib.compact xs).length) 0).toArray) (os := #[])
    rw [Array.append_empty] at hmm
    exact hmm
  · intro x hx
    rw [blks_pos h0] at *
    exact .inl hx
end Go.Vc


/- slices.Sort and slices.Compact at ints in this program: the tables of numbers and the bodies held against the library's own, printed by the kit's tool lay-plain; and the contracts. Condition: none. -/
namespace Go.Proofs.Ytjmcijcdncgaiaa
open Go.Vc Go.Shelf Go.Sort
set_option linter.all false
def sortInts_ren : Go.Shelf.Ren := ⟨fun | 189 => 69 | 125 => 93 | 257 => 92 | 128 => 114 | 129 => 115 | 294 => 105 | 295 => 106 | 296 => 107 | 297 => 108 | 298 => 109 | 299 => 110 | 216 => 111 | 300 => 112 | 301 => 113 | 328 => 119 | 329 => 120 | 330 => 121 | 331 => 122 | 332 => 123 | 215 => 91 | 343 => 125 | n => n, fun | 28 => 22 | 3 => 3 | 46 => 81 | 0 => 0 | 51 => 98 | 53 => 74 | 4 => 4 | 183 => 91 | 182 => 90 | 131 => 95 | 5 => 5 | 9 => 9 | 218 => 101 | 222 => 105 | 228 => 107 | 229 => 108 | n => n, fun | n => n⟩
theorem sortInts : Go.Proofs.Lays.n189 Try.prog sortInts_ren := {
 mixed := by kernel_rfl
 f125 := Try.func93.trans (congrArg some (by kernel_rfl))
 f128 := Try.func114.trans (congrArg some (by kernel_rfl))
 f129 := Try.func115.trans (congrArg some (by kernel_rfl))
 f189 := Try.func69.trans (congrArg some (by kernel_rfl))
 f215 := Try.func91.trans (congrArg some (by kernel_rfl))
 f216 := Try.func111.trans (congrArg some (by kernel_rfl))
 f257 := Try.func92.trans (congrArg some (by kernel_rfl))
 f294 := Try.func105.trans (congrArg some (by kernel_rfl))
 f295 := Try.func106.trans (congrArg some (by kernel_rfl))
 f296 := Try.func107.trans (congrArg some (by kernel_rfl))
 f297 := Try.func108.trans (congrArg some (by kernel_rfl))
 f298 := Try.func109.trans (congrArg some (by kernel_rfl))
 f299 := Try.func110.trans (congrArg some (by kernel_rfl))
 f300 := Try.func112.trans (congrArg some (by kernel_rfl))
 f301 := Try.func113.trans (congrArg some (by kernel_rfl))
 f328 := Try.func119.trans (congrArg some (by kernel_rfl))
 f329 := Try.func120.trans (congrArg some (by kernel_rfl))
 f330 := Try.func121.trans (congrArg some (by kernel_rfl))
 f331 := Try.func122.trans (congrArg some (by kernel_rfl))
 f332 := Try.func123.trans (congrArg some (by kernel_rfl))
 f343 := Try.func125.trans (congrArg some (by kernel_rfl))
 t0 := Try.underlying0
 a0 := Try.isAgg0
 z0 := Try.sizeOf0
 v0 := Try.zeroValue0
 t3 := Try.underlying3
 a3 := Try.isAgg3
 z3 := Try.sizeOf3
 v3 := Try.zeroValue3
 t4 := Try.underlying4
 a4 := Try.isAgg4
 z4 := Try.sizeOf4
 v4 := Try.zeroValue4
 t5 := Try.underlying5
 a5 := Try.isAgg5
 z5 := Try.sizeOf5
 v5 := Try.zeroValue5
 t9 := Try.underlying9
 a9 := Try.isAgg9
 z9 := Try.sizeOf9
 v9 := Try.zeroValue9
 t28 := Try.underlying22
 a28 := Try.isAgg22
 z28 := Try.sizeOf22
 v28 := Try.zeroValue22
 t46 := Try.underlying81
 a46 := Try.isAgg81
 z46 := Try.sizeOf81
 v46 := Try.zeroValue81
 t51 := Try.underlying98
 a51 := Try.isAgg98
 z51 := Try.sizeOf98
 v51 := Try.zeroValue98
 t53 := Try.underlying74
 a53 := Try.isAgg74
 z53 := Try.sizeOf74
 v53 := Try.zeroValue74
 t131 := Try.underlying95
 a131 := Try.isAgg95
 z131 := Try.sizeOf95
 v131 := Try.zeroValue95
 t182 := Try.underlying90
 a182 := Try.isAgg90
 z182 := Try.sizeOf90
 v182 := Try.zeroValue90
 t183 := Try.underlying91
 a183 := Try.isAgg91
 z183 := Try.sizeOf91
 v183 := Try.zeroValue91
 t218 := Try.underlying101
 a218 := Try.isAgg101
 z218 := Try.sizeOf101
 v218 := Try.zeroValue101
 t222 := Try.underlying105
 a222 := Try.isAgg105
 z222 := Try.sizeOf105
 v222 := Try.zeroValue105
 t228 := Try.underlying107
 a228 := Try.isAgg107
 z228 := Try.sizeOf107
 v228 := Try.zeroValue107
 t229 := Try.underlying108
 a229 := Try.isAgg108
 z229 := Try.sizeOf108
 v229 := Try.zeroValue108 }
def compactInts_ren : Go.Shelf.Ren := ⟨fun | 20 => 70 | n => n, fun | 22 => 22 | 3 => 3 | 4 => 4 | 0 => 0 | n => n, fun | n => n⟩
theorem compactInts : Go.Proofs.Lays2.n20 Try.prog compactInts_ren := {
 mixed := by kernel_rfl
 f20 := Try.func70.trans (congrArg some (by kernel_rfl))
 t0 := Try.underlying0
 a0 := Try.isAgg0
 z0 := Try.sizeOf0
 v0 := Try.zeroValue0
 t3 := Try.underlying3
 a3 := Try.isAgg3
 z3 := Try.sizeOf3
 v3 := Try.zeroValue3
 t4 := Try.underlying4
 a4 := Try.isAgg4
 z4 := Try.sizeOf4
 v4 := Try.zeroValue4
 t22 := Try.underlying22
 a22 := Try.isAgg22
 z22 := Try.sizeOf22
 v22 := Try.zeroValue22
 i3 := by kernel_rfl }

theorem slices_Sort_ok (v : Value) (xs : List Int) (h : Heap) (hs : SlO h v xs) (hl : xs.length ≤ 1000000) :
  Cn f_slices_Sort_Lint_int [v] h fun r h' => r = .tuple #[] ∧ SlO h' v (xs.mergeSort fun x y => decide (x ≤ y)) ∧ Mod (blks v) h h' :=
 sortInts_gen sortInts rfl ⟨Try.f69, Try.func69, by kernel_rfl, by kernel_rfl⟩ v xs h hs hl
theorem slices_Compact_ok (v : Value) (xs : List Int) (h : Heap) (hs : SlO h v xs) (hl : xs.length ≤ 1000000) :
  Cn f_slices_Compact_Lint_int [v] h fun r h' => SlO h' r (Lib.compact xs) ∧ Mod (blks v) h h' ∧ ∀ b ∈ blks r, b ∈ blks v ∨ h.size ≤ b :=
 compactInts_gen compactInts rfl ⟨Try.f70, Try.func70, by kernel_rfl, by kernel_rfl⟩ v xs h hs hl
end Go.Proofs.Ytjmcijcdncgaiaa


/- The messages of some packets: the code. Condition: none. Printed in part by a program. -/
namespace Go.Proofs.Ytjmcijcdncgaiaa
open Go.Vc
set_option linter.all false
set_option maxRecDepth 10000 in
set_option maxHeartbeats 4000000 in
theorem spec_l1Put_ok (v_l : Value) (l : List Int) (n : Int) (h : Heap) (s_l : SlO h v_l l) (bl : l.length ≤ 1000000) : Cn f_spec_l1Put [v_l, .int .i64 n] h fun v h' => ∃ r0 : Value, v = r0 ∧ SlO h' r0 (putW l n) ∧ Mod (blks v_l) h h' ∧ ∀ b ∈ blks r0, b ∈ (blks v_l) ∨ h.size ≤ b := by
 have lt_l := s_l.lt
 have l63_l := s_l.len63
 refine calls_of r_spec_l1Put ?_
 refine v_seq ?_
 refine v_ops ?_
 refine s_pure (.slice none 0 0) (fun _ q => q) ?_
 refine s_nil ?_
 refine p_seqN ?_
 refine v_seq ?_
 refine v_ops ?_
 refine s_pure (.int .i64 0) (fun _ q => q) ?_
 refine s_nil ?_
 refine p_seqN ?_
 refine v_seq ?_
 refine v_block ?_
 refine v_loop2 (α := Nat) (β := List Int) (fun k ll => [(0, v_l), (1, .int .i64 n), (5, .int .i64 (k : Int))]) (fun k ll hh => Mod (blks v_l) h hh ∧ SlO hh v_l ll ∧ ll = l ∧ k ≤ ll.length ∧ ∀ y ∈ ll.take k, y < n) (fun k ll => l.length - k) 0 l ⟨rfl, rfl, rfl⟩ ⟨(Mod.refl (blks v_l) h), s_l, (by exact ⟨rfl, by simp⟩)⟩ ?_
 rintro k ll R2 h1 ⟨Eh, s_l, ⟨hll, hk, hall⟩⟩
 have zEh := Eh.size
 have lt_l := s_l.lt
 have hlen : ll.length = l.length := by rw [hll]
 refine v_seq ?_
 refine v_seq ?_
 refine v_ops ?_
 refine s_pure (.int .i64 (k : Int)) (fun _ q => q) ?_
 refine s_pure v_l (fun _ q => q) ?_
 refine s_pure (.int .i64 (ll.length : Int)) (fun _ q => s_l.lenVC q) ?_
 refine s_pure (.bool (decide ((k : Int) < (ll.length : Int)))) (fun _ q => q) ?_
 refine s_pure (.bool (decide ((k : Int) < (ll.length : Int)))) (fun _ q => q) ?_
 refine s_splitT rfl (fun c4 => ?_) (fun c4 => ?_)
 ·
  refine s_run rfl ?_
  refine s_pure v_l (fun _ q => q) ?_
  refine s_run rfl ?_
  refine s_pure (.int .i64 (k : Int)) (fun _ q => q) ?_
  refine s_run rfl ?_
  have hk5 : k < ll.length := (by first | omega | (simp; omega))
  obtain ⟨x6, hx6⟩ : ∃ x, ll[k]? = some x := ⟨_, List.getElem?_eq_getElem hk5⟩
  refine s_pure (.pointer (some ⟨sblk v_l, soff v_l + k * 1, none⟩)) (fun _ q => s_l.idx (k := k) rfl hk5 q) ?_
  refine s_run rfl ?_
  refine s_load (.int .i64 x6) (fun _ q => s_l.load1 hx6 rfl q) ?_
  refine s_run rfl ?_
  refine s_pure (.int .i64 n) (fun _ q => q) ?_
  refine s_run rfl ?_
  refine s_pure (.bool (decide (x6 < n))) (fun _ q => q) ?_
  refine s_pure (.bool (decide (x6 < n))) (fun _ q => q) ?_
  refine s_nil ?_
  refine p_seqN ?_
  refine v_cond rfl (fun c7 => ?_) (fun c7 => ?_)
  ·
   refine v_skip ?_
   refine p_seqN ?_
   refine v_block ?_
   refine v_ops ?_
   refine s_pure (.int .i64 (k : Int)) (fun _ q => q) ?_
   refine s_pure (.int .i64 ((k : Int) + 1)) (fun _ q => ArithVC.mk (by omega) q) ?_
   refine s_pure (.int .i64 ((k : Int) + 1)) (fun _ q => q) ?_
   refine s_nil ?_
   refine p_blkN ?_
   exact p_lpN ⟨k + 1, ll, ⟨rfl, rfl, rfl⟩, ⟨Eh, (sl_eq s_l rfl), (by exact ⟨hll, by omega, all_lt_snoc hall (by assumption) (by assumption)⟩)⟩, by omega⟩
  ·
   refine v_exit ?_
   refine p_seqX ?_
   refine p_lpX ?_
   refine p_blkX ?_
   refine p_seqN ?_
   refine v_seq ?_
   refine v_seq ?_
   refine v_ops ?_
   refine s_pure (.int .i64 (k : Int)) (fun _ q => q) ?_
   refine s_pure v_l (fun _ q => q) ?_
   refine s_pure (.int .i64 (ll.length : Int)) (fun _ q => s_l.lenVC q) ?_
   refine s_pure (.bool (decide ((k : Int) < (ll.length : Int)))) (fun _ q => q) ?_
   refine s_pure (.bool (decide ((k : Int) < (ll.length : Int)))) (fun _ q => q) ?_
   refine s_splitY rfl (by first | assumption | omega | (simp; done) | (simp; omega) | simp_all) ?_
   refine s_run rfl ?_
   refine s_pure v_l (fun _ q => q) ?_
   refine s_run rfl ?_
   refine s_pure (.int .i64 (k : Int)) (fun _ q => q) ?_
   refine s_run rfl ?_
   refine s_pure (.pointer (some ⟨sblk v_l, soff v_l + k * 1, none⟩)) (fun _ q => s_l.idx (k := k) rfl hk5 q) ?_
   refine s_run rfl ?_
   refine s_load (.int .i64 x6) (fun _ q => s_l.load1 hx6 rfl q) ?_
   refine s_run rfl ?_
   refine s_pure (.int .i64 n) (fun _ q => q) ?_
   refine s_run rfl ?_
   refine s_pure (.bool (x6 == n)) (fun _ q => q) ?_
   refine s_pure (.bool (x6 == n)) (fun _ q => q) ?_
   refine s_nil ?_
   refine p_seqN ?_
   refine v_cond rfl (fun c8 => ?_) (fun c8 => ?_)
   ·
    refine v_seq ?_
    refine v_ops ?_
    refine s_pure v_l (fun _ q => q) ?_
    refine s_pure v_l (fun _ q => q) ?_
    refine s_nil ?_
    refine p_seqN ?_
    refine v_ret ?_
    refine p_seqR ?_
    refine p_ret [v_l] v_l (fun _ q => q) rfl ?_
    have ho : putW l n = ll := by subst hll; first | exact put_there hall (by assumption) (by assumption) (by assumption) | (rw [put_in hall (by assumption) (by assumption) (by assumption)]; simp; done) | (rw [put_end hall hk (by assumption)]; simp; done)
    exact ⟨v_l, by first | (rw [ho]; done) | rfl, sl_eq s_l (congrArg (fun o => o) ho).symm, Eh, (fun b hb => Or.inl hb)⟩
   ·
    refine v_skip ?_
    refine p_seqN ?_
    refine v_seq ?_
    refine v_ops ?_
    refine s_row (α := Int) [] (fun _ q => seg_nil q) rfl (by simp [maxLen]) (fun r9 h10 eh10 zh10 s_r9 fr_r9 => ?_)
    have E11 := Eh.trans (Mod.of_ext eh10 _)
    have z12 := eh10.size
    have lt_r9 := s_r9.lt
    refine s_pure v_l (fun _ q => q) ?_
    refine s_pure (.int .i64 (k : Int)) (fun _ q => q) ?_
    have f13 := (s_l.ext eh10)
    obtain ⟨r14, hqr14, s_r14, bk_r14⟩ := f13.toSl.slc (l := 0) (m := k) (by first | omega | (simp; omega)) (by first | omega | (simp; omega))
    simp only [List.drop_zero] at s_r14
    have lt_r14 := s_r14.lt
    refine s_pure r14 (fun K q => hqr14 _ rfl none (some (.int .i64 (k : Int))) rfl ⟨_, _, rfl, rfl⟩ K q) ?_
    refine s_app s_r9 s_r14 rfl rfl rfl (by simp [maxLen]; omega) (by simp; omega) (fun r15 h16 mh16 zh16 s_r15 ab_r15 => ?_)
    have E17 := E11.new mh16 (fun b hb => .inr (by have := fr_r9 b hb; omega))
    have fr_r15 := fr_r9.app ab_r15 (by omega)
    have lt_r15 := s_r15.lt
    refine s_pure r15 (fun _ q => q) ?_
    refine s_nil ?_
    refine p_seqN ?_
    refine v_seq ?_
    refine v_ops ?_
    refine s_pure r15 (fun _ q => q) ?_
    refine s_pure (.int .i64 n) (fun _ q => q) ?_
    refine s_row (α := Int) [n] (fun _ q => seg_i rfl (seg_nil q)) rfl (by simp [maxLen]) (fun r18 h19 eh19 zh19 s_r18 fr_r18 => ?_)
    have E20 := E17.trans (Mod.of_ext eh19 _)
    have z21 := eh19.size
    have lt_r18 := s_r18.lt
    have f22 := (s_r15.ext eh19)
    refine s_app f22 s_r18 rfl rfl rfl (by simp [maxLen]; omega) (by simp; omega) (fun r23 h24 mh24 zh24 s_r23 ab_r23 => ?_)
    have E25 := E20.new mh24 (fun b hb => .inr (by have := fr_r15 b hb; omega))
    have fr_r23 := fr_r15.app ab_r23 (by omega)
    have np26 : ∀ b ∈ blks r18, b ∉ blks r23 := fun b hb hc => (ab_r23 _ hc).elim (((fun b hb hc => by have := fr_r18 b hb; have := lt_r15 b hc; omega) : ∀ b ∈ blks r18, b ∉ blks r15) b hb) (fun hc => by have := lt_r18 b hb; omega)
    have lt_r23 := s_r23.lt
    refine s_pure r23 (fun _ q => q) ?_
    refine s_nil ?_
    refine p_seqN ?_
    refine v_seq ?_
    refine v_ops ?_
    refine s_pure r23 (fun _ q => q) ?_
    refine s_pure v_l (fun _ q => q) ?_
    refine s_pure (.int .i64 (k : Int)) (fun _ q => q) ?_
    have f27 := (((f13.mod mh16 (fun b hb hc => by have := lt_l b hb; have := fr_r9 b hc; omega)).ext eh19).mod mh24 (fun b hb hc => by have := lt_l b hb; have := fr_r15 b hc; omega))
    obtain ⟨r28, hqr28, s_r28, bk_r28⟩ := f27.toSl.slc (l := k) (m := ll.length) (by first | omega | (simp; omega)) (by first | omega | (simp; omega))
    have lt_r28 := s_r28.lt
    refine s_pure r28 (fun K q => hqr28 _ rfl (some (.int .i64 (k : Int))) none ⟨_, _, rfl, rfl⟩ rfl K q) ?_
    refine s_app s_r23 s_r28 rfl rfl rfl (by simp [maxLen]; omega) (by simp; omega) (fun r29 h30 mh30 zh30 s_r29 ab_r29 => ?_)
    have E31 := E25.new mh30 (fun b hb => .inr (by have := fr_r23 b hb; omega))
    have fr_r29 := fr_r23.app ab_r29 (by omega)
    have np32 : ∀ b ∈ blks r18, b ∉ blks r29 := fun b hb hc => (ab_r29 _ hc).elim ((np26 : ∀ b ∈ blks r18, b ∉ blks r23) b hb) (fun hc => by have := lt_r18 b hb; omega)
    have np33 : ∀ b ∈ blks r18, b ∉ blks r29 := fun b hb hc => (ab_r29 _ hc).elim ((np26 : ∀ b ∈ blks r18, b ∉ blks r23) b hb) (fun hc => by have := lt_r18 b hb; omega)
    have lt_r29 := s_r29.lt
    refine s_pure r29 (fun _ q => q) ?_
    refine s_nil ?_
    refine p_seqN ?_
    refine v_ret ?_
    refine p_ret [r29] r29 (fun _ q => q) rfl ?_
    have ho : putW l n = ((([] ++ ll.take k) ++ [n]) ++ (ll.take ll.length).drop k) := by subst hll; first | exact put_there hall (by assumption) (by assumption) (by assumption) | (rw [put_in hall (by assumption) (by assumption) (by assumption)]; simp; done) | (rw [put_end hall hk (by assumption)]; simp; done)
    exact ⟨r29, by first | (rw [ho]; done) | rfl, sl_eq s_r29 (congrArg (fun o => o) ho).symm, E31, (fun b hb => Or.inr (fr_r29.mono (by omega) b hb))⟩
 ·
  refine s_pass rfl ?_
  refine s_pass rfl ?_
  refine s_pass rfl ?_
  refine s_pass rfl ?_
  refine s_pass rfl ?_
  refine s_pass rfl ?_
  refine s_pure (.bool false) (fun _ q => q) ?_
  refine s_nil ?_
  refine p_seqN ?_
  refine v_condN rfl (by simp) ?_
  refine v_exit ?_
  refine p_seqX ?_
  refine p_lpX ?_
  refine p_blkX ?_
  refine p_seqN ?_
  refine v_seq ?_
  refine v_seq ?_
  refine v_ops ?_
  refine s_pure (.int .i64 (k : Int)) (fun _ q => q) ?_
  refine s_pure v_l (fun _ q => q) ?_
  refine s_pure (.int .i64 (ll.length : Int)) (fun _ q => s_l.lenVC q) ?_
  refine s_pure (.bool (decide ((k : Int) < (ll.length : Int)))) (fun _ q => q) ?_
  refine s_pure (.bool (decide ((k : Int) < (ll.length : Int)))) (fun _ q => q) ?_
  refine s_splitN rfl (by first | assumption | omega | (simp; done) | (simp; omega) | simp_all) ?_
  refine s_pass rfl ?_
  refine s_pass rfl ?_
  refine s_pass rfl ?_
  refine s_pass rfl ?_
  refine s_pass rfl ?_
  refine s_pass rfl ?_
  refine s_pure (.bool false) (fun _ q => q) ?_
  refine s_nil ?_
  refine p_seqN ?_
  refine v_condN rfl (by simp) ?_
  refine v_skip ?_
  refine p_seqN ?_
  refine v_seq ?_
  refine v_ops ?_
  refine s_row (α := Int) [] (fun _ q => seg_nil q) rfl (by simp [maxLen]) (fun r34 h35 eh35 zh35 s_r34 fr_r34 => ?_)
  have E36 := Eh.trans (Mod.of_ext eh35 _)
  have z37 := eh35.size
  have lt_r34 := s_r34.lt
  refine s_pure v_l (fun _ q => q) ?_
  refine s_pure (.int .i64 (k : Int)) (fun _ q => q) ?_
  have f38 := (s_l.ext eh35)
  obtain ⟨r39, hqr39, s_r39, bk_r39⟩ := f38.toSl.slc (l := 0) (m := k) (by first | omega | (simp; omega)) (by first | omega | (simp; omega))
  simp only [List.drop_zero] at s_r39
  have lt_r39 := s_r39.lt
  refine s_pure r39 (fun K q => hqr39 _ rfl none (some (.int .i64 (k : Int))) rfl ⟨_, _, rfl, rfl⟩ K q) ?_
  refine s_app s_r34 s_r39 rfl rfl rfl (by simp [maxLen]; omega) (by simp; omega) (fun r40 h41 mh41 zh41 s_r40 ab_r40 => ?_)
  have E42 := E36.new mh41 (fun b hb => .inr (by have := fr_r34 b hb; omega))
  have fr_r40 := fr_r34.app ab_r40 (by omega)
  have lt_r40 := s_r40.lt
  refine s_pure r40 (fun _ q => q) ?_
  refine s_nil ?_
  refine p_seqN ?_
  refine v_seq ?_
  refine v_ops ?_
  refine s_pure r40 (fun _ q => q) ?_
  refine s_pure (.int .i64 n) (fun _ q => q) ?_
  refine s_row (α := Int) [n] (fun _ q => seg_i rfl (seg_nil q)) rfl (by simp [maxLen]) (fun r43 h44 eh44 zh44 s_r43 fr_r43 => ?_)
  have E45 := E42.trans (Mod.of_ext eh44 _)
  have z46 := eh44.size
  have lt_r43 := s_r43.lt
  have f47 := (s_r40.ext eh44)
  refine s_app f47 s_r43 rfl rfl rfl (by simp [maxLen]; omega) (by simp; omega) (fun r48 h49 mh49 zh49 s_r48 ab_r48 => ?_)
  have E50 := E45.new mh49 (fun b hb => .inr (by have := fr_r40 b hb; omega))
  have fr_r48 := fr_r40.app ab_r48 (by omega)
  have np51 : ∀ b ∈ blks r43, b ∉ blks r48 := fun b hb hc => (ab_r48 _ hc).elim (((fun b hb hc => by have := fr_r43 b hb; have := lt_r40 b hc; omega) : ∀ b ∈ blks r43, b ∉ blks r40) b hb) (fun hc => by have := lt_r43 b hb; omega)
  have lt_r48 := s_r48.lt
  refine s_pure r48 (fun _ q => q) ?_
  refine s_nil ?_
  refine p_seqN ?_
  refine v_seq ?_
  refine v_ops ?_
  refine s_pure r48 (fun _ q => q) ?_
  refine s_pure v_l (fun _ q => q) ?_
  refine s_pure (.int .i64 (k : Int)) (fun _ q => q) ?_
  have f52 := (((f38.mod mh41 (fun b hb hc => by have := lt_l b hb; have := fr_r34 b hc; omega)).ext eh44).mod mh49 (fun b hb hc => by have := lt_l b hb; have := fr_r40 b hc; omega))
  obtain ⟨r53, hqr53, s_r53, bk_r53⟩ := f52.toSl.slc (l := k) (m := ll.length) (by first | omega | (simp; omega)) (by first | omega | (simp; omega))
  have lt_r53 := s_r53.lt
  refine s_pure r53 (fun K q => hqr53 _ rfl (some (.int .i64 (k : Int))) none ⟨_, _, rfl, rfl⟩ rfl K q) ?_
  refine s_app s_r48 s_r53 rfl rfl rfl (by simp [maxLen]; omega) (by simp; omega) (fun r54 h55 mh55 zh55 s_r54 ab_r54 => ?_)
  have E56 := E50.new mh55 (fun b hb => .inr (by have := fr_r48 b hb; omega))
  have fr_r54 := fr_r48.app ab_r54 (by omega)
  have np57 : ∀ b ∈ blks r43, b ∉ blks r54 := fun b hb hc => (ab_r54 _ hc).elim ((np51 : ∀ b ∈ blks r43, b ∉ blks r48) b hb) (fun hc => by have := lt_r43 b hb; omega)
  have np58 : ∀ b ∈ blks r43, b ∉ blks r54 := fun b hb hc => (ab_r54 _ hc).elim ((np51 : ∀ b ∈ blks r43, b ∉ blks r48) b hb) (fun hc => by have := lt_r43 b hb; omega)
  have lt_r54 := s_r54.lt
  refine s_pure r54 (fun _ q => q) ?_
  refine s_nil ?_
  refine p_seqN ?_
  refine v_ret ?_
  refine p_ret [r54] r54 (fun _ q => q) rfl ?_
  have ho : putW l n = ((([] ++ ll.take k) ++ [n]) ++ (ll.take ll.length).drop k) := by subst hll; first | exact put_there hall (by assumption) (by assumption) (by assumption) | (rw [put_in hall (by assumption) (by assumption) (by assumption)]; simp; done) | (rw [put_end hall hk (by assumption)]; simp; done)
  exact ⟨r54, by first | (rw [ho]; done) | rfl, sl_eq s_r54 (congrArg (fun o => o) ho).symm, E56, (fun b hb => Or.inr (fr_r54.mono (by omega) b hb))⟩

theorem impl_MessagesIn_ok (v_l : Value) (l : List Pk) (d_l : List (PkP)) (h : Heap) (s_l : Sl h v_l l) (in_l : ∀ p ∈ l, Sl h p.sv.v p.sig) (hd_l : l.map Pk.p = d_l) : Cn f_impl_MessagesIn [v_l] h fun v h' => ∃ r0 : Value, v = .tuple #[r0, .bool ((msgOut d_l).2)] ∧ SlO h' r0 ((msgOut d_l).1) ∧ Fr h.size r0 ∧ Ext h h' := by
 subst hd_l
 have lt_l := s_l.lt
 have l63_l := s_l.len63
 have inlt_l := fun p hp => (in_l p hp).lt
 refine calls_of r_impl_MessagesIn ?_
 refine v_seq ?_
 refine v_ops ?_
 refine s_pure (.slice none 0 0) (fun _ q => q) ?_
 refine s_pure (.bool false) (fun _ q => q) ?_
 refine s_nil ?_
 refine p_seqN ?_
 refine v_seq ?_
 refine v_seq ?_
 refine v_ops ?_
 refine s_pure v_l (fun _ q => q) ?_
 refine s_call [v_l] rfl (impl_ArePackets_ok v_l l (l.map Pk.p) _ s_l in_l rfl) ?_
 rintro _ h1 ⟨rfl, eh1⟩
 have E2 := (Ext.refl h).trans eh1
 have z3 := eh1.size
 refine s_pure (.bool (!decide (PksOk (l.map Pk.p)))) (fun _ q => q) ?_
 refine s_nil ?_
 refine p_seqN ?_
 refine v_cond rfl (fun c4 => ?_) (fun c4 => ?_)
 ·
  refine v_seq ?_
  refine v_ops ?_
  refine s_pure (.slice none 0 0) (fun _ q => q) ?_
  refine s_pure (.bool false) (fun _ q => q) ?_
  refine s_nil ?_
  refine p_seqN ?_
  refine v_ret ?_
  refine p_seqR ?_
  refine p_ret [.slice none 0 0, .bool false] (.tuple #[.slice none 0 0, .bool false]) (fun _ q => q) rfl ?_
  have ho : msgOut (l.map Pk.p) = ([], false) := by first | exact msg_no (by assumption) | exact (msg_sort (by assumption) (ho.trans (by rw [take_all (by assumption)]))).symm
  exact ⟨(.slice none 0 0), by first | (rw [ho]; done) | rfl, sl_eq (SlX.nil (α := Int) true _) (congrArg (fun o => o.1) ho).symm, Fr.nil _, E2⟩
 ·
  have c4 := Classical.not_not.1 c4
  refine v_skip ?_
  refine p_seqN ?_
  refine v_seq ?_
  refine v_ops ?_
  refine s_pure (.slice none 0 0) (fun _ q => q) ?_
  refine s_nil ?_
  refine p_seqN ?_
  refine v_seq ?_
  refine v_seq ?_
  refine v_ops ?_
  refine s_pure v_l (fun _ q => q) ?_
  refine s_pure (.int .i64 (l.length : Int)) (fun _ q => s_l.lenVC q) ?_
  refine s_pure (.int .i64 0) (fun _ q => q) ?_
  refine s_nil ?_
  refine p_seqN ?_
  refine v_block ?_
  have hl40 : l.length ≤ 40 := by (have h4 := (by assumption : PksOk (l.map Pk.p)).1); simpa using h4
  refine v_loop3 (α := Nat) (β := List Int) (γ := Value) (fun k o w => [(4, w), (10, v_l), (11, .int .i64 (l.length : Int)), (12, .int .i64 (k : Int))]) (fun k o w hh => Ext h hh ∧ SlO hh w o ∧ Fr h.size w ∧ k ≤ l.length ∧ o = (l.take k).map Pk.message) (fun k o w => l.length - k) 0 [] (.slice none 0 0) ⟨rfl, rfl, rfl, rfl⟩ ⟨E2, (sl_eq (SlX.nil (α := Int) true h1) (by simp)), (Fr.nil _), (by simp)⟩ ?_
  rintro k o w R6 h5 ⟨Eh, s_w, fr_w, ⟨hk, ho⟩⟩
  have zEh := Eh.size
  have f8 := s_l.ext Eh
  have in9 := fun p hp => (in_l p hp).ext Eh
  have lt_w := s_w.lt
  have hol : o.length ≤ l.length := by (rw [ho]; simp; omega)
  refine v_seq ?_
  refine v_ops ?_
  refine s_pure (.bool (decide ((k : Int) < (l.length : Int)))) (fun _ q => q) ?_
  refine s_nil ?_
  refine p_seqN ?_
  refine v_seq ?_
  refine v_cond rfl (fun c10 => ?_) (fun c10 => ?_)
  ·
   refine v_skip ?_
   refine p_seqN ?_
   refine v_seq ?_
   refine v_block ?_
   refine v_seq ?_
   refine v_ops ?_
   have hk11 : k < l.length := (by first | omega | (simp; omega))
   obtain ⟨x12, hx12⟩ : ∃ x, l[k]? = some x := ⟨_, List.getElem?_eq_getElem hk11⟩
   refine s_pure (.pointer (some ⟨sblk v_l, soff v_l + k * 4, none⟩)) (fun _ q => f8.idx (k := k) rfl hk11 q) ?_
   have s13 := in9 x12 (List.mem_of_getElem? hx12)
   refine s_load (.agg #[.int .i64 x12.message, .int .i64 x12.part, .int .i64 x12.parts, x12.sv.v]) (fun _ q => f8.loadN hx12 rfl q) ?_
   refine s_new (fun h15 b14 hbb14 hzb14 eh15 bxb14 => ?_)
   have E16 := Eh.trans eh15
   have z17 := eh15.size
   have lbb14 := bxb14.lt
   refine s_stBx (.agg #[.int .i64 x12.message, .int .i64 x12.part, .int .i64 x12.parts, x12.sv.v]) [.int .i64 x12.message, .int .i64 x12.part, .int .i64 x12.parts, x12.sv.v] [.int .i64 x12.message, .int .i64 x12.part, .int .i64 x12.parts, x12.sv.v] bxb14 rfl rfl rfl rfl (by simp) (all_cons rfl (all_cons rfl (all_cons rfl (all_cons s13.one1 all_nil)))) rfl (fun h18 mh18 sh18 bxx19 => ?_)
   have E20 := E16.mod mh18 (fun b hb => by simp at hb; omega)
   refine s_nil ?_
   refine p_seqN ?_
   refine v_ops ?_
   refine s_pure w (fun _ q => q) ?_
   refine s_pure (.pointer (some ⟨b14, 0, none⟩)) (fun _ q => q) ?_
   refine s_load (.int .i64 x12.message) (fun _ q => bxx19.load rfl q) ?_
   refine s_row (α := Int) [x12.message] (fun _ q => seg_i rfl (seg_nil q)) rfl (by simp [maxLen]) (fun r21 h22 eh22 zh22 s_r21 fr_r21 => ?_)
   have E23 := E20.trans eh22
   have z24 := eh22.size
   have lt_r21 := s_r21.lt
   have f25 := (((s_w.ext eh15).mod mh18 (fun b hb hc => by simp at hc; have := lt_w b hb; omega)).ext eh22)
   refine s_app f25 s_r21 rfl rfl rfl (by simp [maxLen]; omega) (by simp; omega) (fun r26 h27 mh27 zh27 s_r26 ab_r26 => ?_)
   have E28 := E23.mod mh27 (fun b hb => by have := fr_w b hb; omega)
   have fr_r26 := fr_w.app ab_r26 (by omega)
   have np29 : b14 ∉ blks r26 := fun hc => (ab_r26 _ hc).elim (fun hc => by have := lt_w _ hc; omega) (fun hc => by omega)
   have np30 : ∀ b ∈ blks r21, b ∉ blks r26 := fun b hb hc => (ab_r26 _ hc).elim (((fun b hb hc => by have := fr_r21 b hb; have := lt_w b hc; omega) : ∀ b ∈ blks r21, b ∉ blks w) b hb) (fun hc => by have := lt_r21 b hb; omega)
   have lt_r26 := s_r26.lt
   refine s_pure r26 (fun _ q => q) ?_
   refine s_nil ?_
   refine p_blkN ?_
   refine p_seqN ?_
   refine v_ops ?_
   refine s_pure (.int .i64 ((k : Int) + 1)) (fun _ q => ArithVC.mk (by omega) q) ?_
   refine s_pure (.int .i64 ((k : Int) + 1)) (fun _ q => q) ?_
   refine s_nil ?_
   exact p_lpN ⟨k + 1, (o ++ [x12.message]), r26, ⟨rfl, rfl, rfl, rfl⟩, ⟨E28, (sl_eq s_r26 (by simp)), (fr_r26.mono (by omega)), (by exact ⟨by omega, msg_step ho (by assumption)⟩)⟩, by omega⟩
  ·
   refine v_exit ?_
   refine p_seqX ?_
   refine p_lpX ?_
   refine p_blkX ?_
   refine p_seqN ?_
   refine v_seq ?_
   refine v_ops ?_
   refine s_pure w (fun _ q => q) ?_
   refine s_call [w] rfl (slices_Sort_ok w o _ s_w (by omega)) ?_
   rintro _ h31 ⟨rfl, s32, mh31⟩
   have zh31 := mh31.size
   have E33 := Eh.mod mh31 (fun b hb => by have := fr_w b hb; omega)
   refine s_nil ?_
   refine p_seqN ?_
   refine v_seq ?_
   refine v_ops ?_
   refine s_pure w (fun _ q => q) ?_
   refine s_call [w] rfl (slices_Compact_ok w (o.mergeSort fun x y => decide (x ≤ y)) _ s32 (by simp; omega)) ?_
   rintro r35 h34 ⟨s_r35, mh34, ab_r35⟩
   have zh34 := mh34.size
   have E36 := E33.mod mh34 (fun b hb => by have := fr_w b hb; omega)
   have fr_r35 := fr_w.app ab_r35 (by omega)
   have lt_r35 := s_r35.lt
   refine s_pure r35 (fun _ q => q) ?_
   refine s_pure (.bool true) (fun _ q => q) ?_
   refine s_nil ?_
   refine p_seqN ?_
   refine v_ret ?_
   refine p_ret [r35, .bool true] (.tuple #[r35, .bool true]) (fun _ q => q) rfl ?_
   have ho : msgOut (l.map Pk.p) = ((Lib.compact (o.mergeSort fun x y => decide (x ≤ y))), true) := by first | exact msg_no (by assumption) | exact (msg_sort (by assumption) (ho.trans (by rw [take_all (by assumption)]))).symm
   exact ⟨r35, by first | (rw [ho]; done) | rfl, sl_eq s_r35 (congrArg (fun o => o.1) ho).symm, fr_r35.mono (by omega), E36⟩

theorem spec_MessagesIn_ok (v_l : Value) (l : List Pk) (d_l : List (PkP)) (h : Heap) (s_l : Sl h v_l l) (in_l : ∀ p ∈ l, Sl h p.sv.v p.sig) (hd_l : l.map Pk.p = d_l) : Cn f_spec_MessagesIn [v_l] h fun v h' => ∃ r0 : Value, v = .tuple #[r0, .bool ((msgOut d_l).2)] ∧ SlO h' r0 ((msgOut d_l).1) ∧ Fr h.size r0 ∧ Ext h h' := by
 subst hd_l
 have lt_l := s_l.lt
 have l63_l := s_l.len63
 have inlt_l := fun p hp => (in_l p hp).lt
 refine calls_of r_spec_MessagesIn ?_
 refine v_seq ?_
 refine v_ops ?_
 refine s_pure (.slice none 0 0) (fun _ q => q) ?_
 refine s_pure (.bool false) (fun _ q => q) ?_
 refine s_nil ?_
 refine p_seqN ?_
 refine v_seq ?_
 refine v_seq ?_
 refine v_ops ?_
 refine s_pure v_l (fun _ q => q) ?_
 refine s_call [v_l] rfl (spec_pkAll_ok v_l l (l.map Pk.p) _ s_l in_l rfl) ?_
 rintro _ h1 ⟨rfl, eh1⟩
 have E2 := (Ext.refl h).trans eh1
 have z3 := eh1.size
 refine s_pure (.bool (!decide (PksOk (l.map Pk.p)))) (fun _ q => q) ?_
 refine s_nil ?_
 refine p_seqN ?_
 refine v_cond rfl (fun c4 => ?_) (fun c4 => ?_)
 ·
  refine v_seq ?_
  refine v_ops ?_
  refine s_pure (.slice none 0 0) (fun _ q => q) ?_
  refine s_pure (.bool false) (fun _ q => q) ?_
  refine s_nil ?_
  refine p_seqN ?_
  refine v_ret ?_
  refine p_seqR ?_
  refine p_ret [.slice none 0 0, .bool false] (.tuple #[.slice none 0 0, .bool false]) (fun _ q => q) rfl ?_
  have ho : msgOut (l.map Pk.p) = ([], false) := by first | exact msg_no (by assumption) | exact (msg_end (by assumption) (ho.trans (by rw [take_all (by assumption)]))).symm
  exact ⟨(.slice none 0 0), by first | (rw [ho]; done) | rfl, sl_eq (SlX.nil (α := Int) true _) (congrArg (fun o => o.1) ho).symm, Fr.nil _, E2⟩
 ·
  have c4 := Classical.not_not.1 c4
  refine v_skip ?_
  refine p_seqN ?_
  refine v_seq ?_
  refine v_ops ?_
  refine s_pure (.slice none 0 0) (fun _ q => q) ?_
  refine s_nil ?_
  refine p_seqN ?_
  refine v_seq ?_
  refine v_seq ?_
  refine v_ops ?_
  refine s_pure v_l (fun _ q => q) ?_
  refine s_pure (.int .i64 (l.length : Int)) (fun _ q => s_l.lenVC q) ?_
  refine s_pure (.int .i64 0) (fun _ q => q) ?_
  refine s_nil ?_
  refine p_seqN ?_
  refine v_block ?_
  have hl40 : l.length ≤ 40 := by (have h4 := (by assumption : PksOk (l.map Pk.p)).1); simpa using h4
  refine v_loop3 (α := Nat) (β := List Int) (γ := Value) (fun k o w => [(4, w), (10, v_l), (11, .int .i64 (l.length : Int)), (12, .int .i64 (k : Int))]) (fun k o w hh => Ext h hh ∧ SlO hh w o ∧ Fr h.size w ∧ k ≤ l.length ∧ o = ((l.take k).map Pk.message).foldl putW []) (fun k o w => l.length - k) 0 [] (.slice none 0 0) ⟨rfl, rfl, rfl, rfl⟩ ⟨E2, (sl_eq (SlX.nil (α := Int) true h1) (by simp)), (Fr.nil _), (by simp)⟩ ?_
  rintro k o w R6 h5 ⟨Eh, s_w, fr_w, ⟨hk, ho⟩⟩
  have zEh := Eh.size
  have f8 := s_l.ext Eh
  have in9 := fun p hp => (in_l p hp).ext Eh
  have lt_w := s_w.lt
  have hol : o.length ≤ l.length := by (rw [ho]; exact msg_put_len)
  refine v_seq ?_
  refine v_ops ?_
  refine s_pure (.bool (decide ((k : Int) < (l.length : Int)))) (fun _ q => q) ?_
  refine s_nil ?_
  refine p_seqN ?_
  refine v_seq ?_
  refine v_cond rfl (fun c10 => ?_) (fun c10 => ?_)
  ·
   refine v_skip ?_
   refine p_seqN ?_
   refine v_seq ?_
   refine v_block ?_
   refine v_seq ?_
   refine v_ops ?_
   have hk11 : k < l.length := (by first | omega | (simp; omega))
   obtain ⟨x12, hx12⟩ : ∃ x, l[k]? = some x := ⟨_, List.getElem?_eq_getElem hk11⟩
   refine s_pure (.pointer (some ⟨sblk v_l, soff v_l + k * 4, none⟩)) (fun _ q => f8.idx (k := k) rfl hk11 q) ?_
   have s13 := in9 x12 (List.mem_of_getElem? hx12)
   refine s_load (.agg #[.int .i64 x12.message, .int .i64 x12.part, .int .i64 x12.parts, x12.sv.v]) (fun _ q => f8.loadN hx12 rfl q) ?_
   refine s_new (fun h15 b14 hbb14 hzb14 eh15 bxb14 => ?_)
   have E16 := Eh.trans eh15
   have z17 := eh15.size
   have lbb14 := bxb14.lt
   refine s_stBx (.agg #[.int .i64 x12.message, .int .i64 x12.part, .int .i64 x12.parts, x12.sv.v]) [.int .i64 x12.message, .int .i64 x12.part, .int .i64 x12.parts, x12.sv.v] [.int .i64 x12.message, .int .i64 x12.part, .int .i64 x12.parts, x12.sv.v] bxb14 rfl rfl rfl rfl (by simp) (all_cons rfl (all_cons rfl (all_cons rfl (all_cons s13.one1 all_nil)))) rfl (fun h18 mh18 sh18 bxx19 => ?_)
   have E20 := E16.mod mh18 (fun b hb => by simp at hb; omega)
   refine s_nil ?_
   refine p_seqN ?_
   refine v_ops ?_
   refine s_pure w (fun _ q => q) ?_
   refine s_pure (.pointer (some ⟨b14, 0, none⟩)) (fun _ q => q) ?_
   refine s_load (.int .i64 x12.message) (fun _ q => bxx19.load rfl q) ?_
   have f21 := ((s_w.ext eh15).mod mh18 (fun b hb hc => by simp at hc; have := lt_w b hb; omega))
   refine s_call [w, .int .i64 x12.message] rfl (spec_l1Put_ok w o x12.message _ f21 (by first | omega | assumption | (simp; omega))) ?_
   rintro r22 h23 ⟨_, rfl, s_r22, mh23, ab_r22⟩
   have zh23 := mh23.size
   have E24 := E20.mod mh23 (fun b hb => by have := fr_w b hb; omega)
   have fr_r22 := fr_w.app ab_r22 (by omega)
   have np25 : b14 ∉ blks r22 := fun hc => (ab_r22 _ hc).elim (fun hc => by have := lt_w _ hc; omega) (fun hc => by omega)
   have lt_r22 := s_r22.lt
   refine s_pure r22 (fun _ q => q) ?_
   refine s_nil ?_
   refine p_blkN ?_
   refine p_seqN ?_
   refine v_ops ?_
   refine s_pure (.int .i64 ((k : Int) + 1)) (fun _ q => ArithVC.mk (by omega) q) ?_
   refine s_pure (.int .i64 ((k : Int) + 1)) (fun _ q => q) ?_
   refine s_nil ?_
   exact p_lpN ⟨k + 1, putW o x12.message, r22, ⟨rfl, rfl, rfl, rfl⟩, ⟨E24, (sl_eq s_r22 (by simp)), (fr_r22.mono (by omega)), (by exact ⟨by omega, msg_put ho (by assumption)⟩)⟩, by omega⟩
  ·
   refine v_exit ?_
   refine p_seqX ?_
   refine p_lpX ?_
   refine p_blkX ?_
   refine p_seqN ?_
   refine v_seq ?_
   refine v_ops ?_
   refine s_pure w (fun _ q => q) ?_
   refine s_pure w (fun _ q => q) ?_
   refine s_pure (.bool true) (fun _ q => q) ?_
   refine s_nil ?_
   refine p_seqN ?_
   refine v_ret ?_
   refine p_ret [w, .bool true] (.tuple #[w, .bool true]) (fun _ q => q) rfl ?_
   have ho : msgOut (l.map Pk.p) = (o, true) := by first | exact msg_no (by assumption) | exact (msg_end (by assumption) (ho.trans (by rw [take_all (by assumption)]))).symm
   exact ⟨w, by first | (rw [ho]; done) | rfl, sl_eq s_w (congrArg (fun o => o.1) ho).symm, fr_w.mono (by omega), Eh⟩

end Go.Proofs.Ytjmcijcdncgaiaa

