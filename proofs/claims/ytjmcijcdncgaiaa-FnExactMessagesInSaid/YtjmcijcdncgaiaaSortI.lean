/- slices.Sort and slices.Compact at ints, out of the library's contracts, as contracts of this layer. Condition: none. -/
import Derived.Test.YtjmcijcdncgaiaaStep2
import Derived.Shelf.Sort.Plain
import Derived.Shelf.Slices.In.SortNone
import Derived.Shelf.Slices.CompactI
import Derived.Lib.RowBridge
namespace Go.Vc
open Go.Shelf Go.Sort Go.Proofs
set_option linter.all false

theorem flat_ints (xs : List Int) : flat xs = xs.map (Value.int .i64) := by
  induction xs with
  | nil => rfl
  | cons x xs ih => rw [List.map_cons, ← ih]; rfl
theorem putI_get (F : Array Int) (C : Array Value) (off k : Nat) : (putCells (Value.int .i64) off F C)[k]? = (C[k]?).map fun x => if off ≤ k ∧ k < off + F.size then .int .i64 F[k - off]! else x := by
  simp [putCells]
theorem windowI {C : List Value} {o n : Nat} {l : List Value} (h : (C.drop o).take n = l) {j : Nat} (hj : j < n) : C[o + j]? = l[j]? := by
  rw [← h, List.getElem?_take_of_lt hj, List.getElem?_drop]
theorem holdsI_of {w : World} {xs : List Int} {b o n c : Nat} (hs : SlO w.heap (.slice (some ⟨b, o, none⟩) n c) xs) (hne : xs ≠ []) : Holds (Value.int .i64) w b o xs.toArray := by
  obtain ⟨a', c', hv, hs⟩ := hs
  simp only [Value.slice.injEq] at hv
  obtain ⟨rfl, rfl, rfl⟩ := hv
  rcases hs with ⟨rfl, _⟩ | ⟨ad, had, h0, h1, h2, h3, C, T, fz, h4, h5, h6, h7⟩
  · exact absurd rfl hne
  · obtain rfl := Option.some.inj had
    obtain rfl := h5 rfl
    simp only at h4 h6 h7
    rw [show Enc.sz Int = 1 from rfl, Nat.mul_one, flat_ints] at h7
    intro j hj
    have hj' : j < xs.length := by simpa using hj
    have hcell : w.cell? ⟨b, o + j, none⟩ = C[o + j]? := by
      show hcell w.heap _ = _
      simp [hcell, h4]
    refine ⟨?_, by simp [World.frozen?, h4]⟩
    rw [hcell, ← Array.getElem?_toList, windowI h7 hj', List.getElem?_map, List.getElem?_eq_getElem hj', getElem!_pos xs.toArray j hj]
    simp
theorem slI_put {h : Heap} {xs ys : List Int} {b o n c : Nat} (hs : SlO h (.slice (some ⟨b, o, none⟩) n c) xs) (hne : xs ≠ []) (hl : ys.length = xs.length) (os : Array Obj) :
    SlO ((h.modify b (onCells (putCells (Value.int .i64) o ys.toArray))) ++ os) (.slice (some ⟨b, o, none⟩) n c) ys := by
  obtain ⟨a', c', hv, hs⟩ := hs
  simp only [Value.slice.injEq] at hv
  obtain ⟨rfl, rfl, rfl⟩ := hv
  rcases hs with ⟨rfl, _⟩ | ⟨ad, had, h0, h1, h2, h3, C, T, fz, h4, h5, h6, h7⟩
  · exact absurd rfl hne
  · obtain rfl := Option.some.inj had
    obtain rfl := h5 rfl
    simp only at h4 h6 h7
    have hb := (Array.getElem?_eq_some_iff.1 h4).1
    refine ⟨some ⟨b, o, none⟩, c, by rw [hl], .inr ⟨_, rfl, h0, rfl, by rw [hl]; exact h2, h3, putCells (Value.int .i64) o ys.toArray C, T, (0, 0), ?_, fun _ => rfl, by simpa [putCells] using h6, ?_⟩⟩
    · simp only
      rw [Array.getElem?_append_left (by simpa using hb), Array.getElem?_modify]
      simp [h4, onCells]
    · simp only
      have hs1 : Enc.sz Int = 1 := rfl
      rw [hs1] at h6
      rw [hs1, Nat.mul_one, flat_ints]
      apply List.ext_getElem?
      intro j
      by_cases hj : j < ys.length
      · rw [List.getElem?_take_of_lt hj, List.getElem?_drop, Array.getElem?_toList, putI_get, Array.getElem?_eq_getElem (by omega), Option.map_some, if_pos (by simp; omega), Nat.add_sub_cancel_left, List.getElem?_map, List.getElem?_eq_getElem hj, getElem!_pos _ _ (by simpa using hj)]
        simp
      · rw [List.getElem?_eq_none (by simp; omega), List.getElem?_eq_none (by simp; omega)]
theorem mod_putI {h : Heap} {b : Nat} {f : Array Value → Array Value} {os : Array Obj} : Mod [b] h ((h.modify b (onCells f)) ++ os) := by
  refine ⟨by simp, fun i hi hn => ?_⟩
  rw [Array.getElem?_append_left (by simpa using hi), Array.getElem?_modify, if_neg (by simp at hn; omega)]
theorem cutI {h : Heap} {xs : List Int} {a : Option Addr} {n c m : Nat} (hs : SlO h (.slice a n c) xs) (hm : m ≤ xs.length) : SlO h (.slice a m c) (xs.take m) := by
  obtain ⟨a', c', hv, hs⟩ := hs
  simp only [Value.slice.injEq] at hv
  obtain ⟨rfl, rfl, rfl⟩ := hv
  have hl : (xs.take m).length = m := by simp; omega
  refine ⟨a, c, by rw [hl], ?_⟩
  rcases hs with ⟨rfl, rfl⟩ | ⟨ad, h0, h1, h2, h3, h4, C, T, fz, h5, h6, h7, h8⟩
  · left; simp
  · right
    refine ⟨ad, h0, h1, h2, by omega, h4, C, T, fz, h5, h6, h7, ?_⟩
    have hle : m * Enc.sz Int ≤ xs.length * Enc.sz Int := Nat.mul_le_mul_right _ hm
    rw [hl, flat_take, ← h8, List.take_take, Nat.min_eq_left hle]
theorem sortInts_gen {P : Program} {ρ : Ren} (L : Lays.n189 P ρ) {f : FuncId} (hf : f = ρ.f 189) (hfn : ∃ fn, P.funcs[f]? = some fn ∧ fn.body.isSome = true ∧ (fn.name == "runtime.NumGoroutine") = false)
    (v : Value) (xs : List Int) (h : Heap) (hs : SlO h v xs) (hl : xs.length ≤ 1000000) :
    CallsH P f [v] h fun r h' => r = .tuple #[] ∧ SlO h' v (xs.mergeSort fun x y => decide (x ≤ y)) ∧ Mod (blks v) h h' := by
  refine ⟨hfn, fun w hw => ?_⟩
  subst hw
  obtain ⟨a, c, rfl⟩ := hs.shape
  by_cases hne : xs = []
  · subst hne
    have hm := Any.slices_Sort_int_none L a c w
    rw [← hf] at hm
    refine hm.mono ?_
    rintro e w' ⟨rfl, rfl⟩
    exact ⟨_, rfl, Sim.refl _, rfl, by simpa using hs, Mod.refl _ _⟩
  have hs0 := hs
  obtain ⟨a', c', hv, hs'⟩ := hs
  simp only [Value.slice.injEq] at hv
  obtain ⟨rfl, -, rfl⟩ := hv
  rcases hs' with ⟨rfl, _⟩ | ⟨ad, rfl, h0, h1, h2, h3, C, T, fz, h4, h5, h6, h7⟩
  · exact absurd rfl hne
  obtain ⟨b, o, s⟩ := ad
  simp only at h1 h4 h6 h7
  subst h1
  have hb := (Array.getElem?_eq_some_iff.1 h4).1
  have hm := Any.slices_Sort_int L b o c xs w (holdsI_of hs0 hne) hb (by omega)
  rw [← hf] at hm
  refine hm.mono ?_
  rintro e w' ⟨rfl, n, os, rfl⟩
  refine ⟨_, rfl, ⟨rfl, rfl, rfl, Nat.le_add_right _ _⟩, rfl, ?_, ?_⟩
  · exact slI_put hs0 hne (by simp) os
  · rw [blks_pos h0]; exact mod_putI
theorem compactInts_gen {P : Program} {ρ : Ren} (L : Lays2.n20 P ρ) {f : FuncId} (hf : f = ρ.f 20) (hfn : ∃ fn, P.funcs[f]? = some fn ∧ fn.body.isSome = true ∧ (fn.name == "runtime.NumGoroutine") = false)
    (v : Value) (xs : List Int) (h : Heap) (hs : SlO h v xs) (hl : xs.length ≤ 1000000) :
    CallsH P f [v] h fun r h' => SlO h' r (Lib.compact xs) ∧ Mod (blks v) h h' ∧ ∀ b ∈ blks r, b ∈ blks v ∨ h.size ≤ b := by
  refine ⟨hfn, fun w hw => ?_⟩
  subst hw
  obtain ⟨a, c, rfl⟩ := hs.shape
  by_cases hne : xs = []
  · subst hne
    have hm := Any.slices_Compact_int_empty L a c w
    rw [← hf] at hm
    refine hm.mono ?_
    rintro e w' ⟨rfl, rfl⟩
    exact ⟨_, rfl, Sim.refl _, hs, Mod.refl _ _, fun b hb => .inl hb⟩
  have hs0 := hs
  obtain ⟨a', c', hv, hs'⟩ := hs
  simp only [Value.slice.injEq] at hv
  obtain ⟨rfl, -, rfl⟩ := hv
  rcases hs' with ⟨rfl, _⟩ | ⟨ad, rfl, h0, h1, h2, h3, C, T, fz, h4, h5, h6, h7⟩
  · exact absurd rfl hne
  obtain ⟨b, o, s⟩ := ad
  simp only at h1 h4 h6 h7
  subst h1
  have hb := (Array.getElem?_eq_some_iff.1 h4).1
  have hm := Any.slices_Compact_int L b o c xs w (holdsI_of hs0 hne) (by omega) h2
  rw [← hf] at hm
  refine hm.mono ?_
  rintro e w' ⟨rfl, q, rfl⟩
  have hle : (Lib.compact xs).length ≤ xs.length := Lib.compact_length_le xs
  have hp := slI_put hs0 hne (ys := Lib.compact xs ++ List.replicate (xs.length - (Lib.compact xs).length) 0) (by simp; omega) #[]
  have hc := cutI hp (m := (Lib.compact xs).length) (by simp)
  simp only [List.take_left', Array.append_empty] at hc
  refine ⟨_, rfl, ⟨rfl, rfl, rfl, Nat.le_add_right _ _⟩, hc, ?_, ?_⟩
  · rw [blks_pos h0]
    have hmm := mod_putI (h := w.heap) (b := b) (f := putCells (Value.int .i64) o (Lib.compact xs ++ List.replicate (xs.length - (Lib.compact xs).length) 0).toArray) (os := #[])
    rw [Array.append_empty] at hmm
    exact hmm
  · intro x hx
    rw [blks_pos h0] at *
    exact .inl hx
end Go.Vc
