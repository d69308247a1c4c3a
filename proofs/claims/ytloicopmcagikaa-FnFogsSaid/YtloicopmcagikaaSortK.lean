/- SortK. Condition: none. -/
import Derived.Test.YtloicopmcagikaaStep2
import Derived.Shelf.SlSortCmp.WholeK
/- slices.SortFunc at structs, out of the library's contract, as a contract of this layer. Condition: none. -/
namespace Go.Vc
open Go.Shelf Go.Sort Go.Proofs
set_option linter.all false

theorem Ext.grown {h h' : Heap} (e : Ext h h') : ∃ os : Array Obj, h' = h ++ os := by
  refine ⟨h'.extract h.size h'.size, ?_⟩
  apply Array.ext_getElem?
  intro i
  by_cases hi : i < h.size
  · rw [Array.getElem?_append_left hi, e.blk i hi]
  · rw [Array.getElem?_append_right (by omega), Array.getElem?_extract]
    have hs := e.size
    by_cases hi' : i < h'.size
    · rw [if_pos (by omega)]
      congr 1; omega
    · rw [if_neg (by omega), Array.getElem?_eq_none (by omega)]
theorem world_grown {w w' : World} (s : Sim w w') (e : Ext w.heap w'.heap) : ∃ q os', w' = grow (w.drewN q) os' := by
  obtain ⟨os, ho⟩ := e.grown
  refine ⟨w'.drawn - w.drawn, os, ?_⟩
  have h1 := s.os
  have h2 := s.tape
  have h3 := s.output
  have h4 := s.drawn
  cases w
  cases w'
  simp only [grow, World.drewN] at *
  subst h1; subst h2; subst h3; subst ho
  congr 1
  omega

theorem putCells_get (F C : Array Value) (off k : Nat) : (putCells id off F C)[k]? = (C[k]?).map fun x => if off ≤ k ∧ k < off + F.size then F[k - off]! else x := by
 simp [putCells]
theorem window_get {C : List Value} {o n : Nat} {l : List Value} (h : (C.drop o).take n = l) {j : Nat} (hj : j < n) : C[o + j]? = l[j]? := by
 rw [← h, List.getElem?_take_of_lt hj, List.getElem?_drop]
theorem flatK_flat {α : Type} [Enc α] [Inhabited α] (xs : List α) : (flatK Enc.cells (Enc.sz α) xs.toArray).toList = flat xs := by
  have hp := Enc.pos (α := α)
  apply List.ext_getElem?
  intro t
  have hf : (flat xs).length = xs.length * Enc.sz α := flat_length xs
  by_cases ht : t < xs.length * Enc.sz α
  · have hd : t / Enc.sz α < xs.length := Nat.div_lt_of_lt_mul (by rw [Nat.mul_comm]; exact ht)
    have hm : t % Enc.sz α < Enc.sz α := Nat.mod_lt _ hp
    have e1 : t = t / Enc.sz α * Enc.sz α + t % Enc.sz α := by rw [Nat.mul_comm]; exact (Nat.div_add_mod t (Enc.sz α)).symm
    have g := get_flatK (Enc.cells (α := α)) (Enc.sz α) xs.toArray t (by simpa using ht)
    have hs : t < (flatK (Enc.cells (α := α)) (Enc.sz α) xs.toArray).size := by simpa using ht
    rw [getElem!_pos (flatK (Enc.cells (α := α)) (Enc.sz α) xs.toArray) t hs] at g
    rw [Array.getElem?_toList, Array.getElem?_eq_getElem hs, g]
    have hx := List.getElem?_eq_getElem hd
    have fg := flat_get hx (t % Enc.sz α) hm
    rw [← e1] at fg
    have hj : t % Enc.sz α < (Enc.cells xs[t / Enc.sz α]).length := by rw [Enc.len]; exact hm
    rw [fg, List.getElem?_eq_getElem hj]
    congr 1
    have ea : xs.toArray[t / Enc.sz α]! = xs[t / Enc.sz α] := by rw [getElem!_pos xs.toArray (t / Enc.sz α) (by simpa using hd)]; simp
    rw [ea, getElem!_pos (Enc.cells xs[t / Enc.sz α]) (t % Enc.sz α) hj]
  · rw [List.getElem?_eq_none (by simp; omega), List.getElem?_eq_none (by omega)]
theorem holdsK_of {α : Type} [Enc α] [Inhabited α] {w : World} {xs : List α} {b o n c : Nat} (hs : SlO w.heap (.slice (some ⟨b, o, none⟩) n c) xs) (hne : xs ≠ []) : HoldsK Enc.cells (Enc.sz α) w b o xs.toArray := by
  obtain ⟨a', c', hv, hs⟩ := hs
  simp only [Value.slice.injEq] at hv
  obtain ⟨rfl, rfl, rfl⟩ := hv
  rcases hs with ⟨rfl, _⟩ | ⟨ad, had, h0, h1, h2, h3, C, T, fz, h4, h5, h6, h7⟩
  · exact absurd rfl hne
  · obtain rfl := Option.some.inj had
    obtain rfl := h5 rfl
    simp only at h4 h6 h7
    intro j hj
    have hj' : j < xs.length * Enc.sz α := by simpa using hj
    have hcell : w.cell? ⟨b, o + j, none⟩ = C[o + j]? := by
      show hcell w.heap _ = _
      simp [hcell, h4]
    refine ⟨?_, by simp [World.frozen?, h4]⟩
    rw [hcell, ← Array.getElem?_toList, window_get h7 hj', ← flatK_flat, Array.getElem?_toList, Array.getElem?_eq_getElem hj, getElem!_pos (flatK (Enc.cells (α := α)) (Enc.sz α) xs.toArray) j hj]
    rfl
theorem slO_put {α : Type} [Enc α] [Inhabited α] {h : Heap} {xs ys : List α} {b o n c : Nat} (hs : SlO h (.slice (some ⟨b, o, none⟩) n c) xs) (hne : xs ≠ []) (hl : ys.length = xs.length) (os : Array Obj) :
    SlO ((h.modify b (onCells (putCells id o (flatK Enc.cells (Enc.sz α) ys.toArray)))) ++ os) (.slice (some ⟨b, o, none⟩) n c) ys := by
  obtain ⟨a', c', hv, hs⟩ := hs
  simp only [Value.slice.injEq] at hv
  obtain ⟨rfl, rfl, rfl⟩ := hv
  rcases hs with ⟨rfl, _⟩ | ⟨ad, had, h0, h1, h2, h3, C, T, fz, h4, h5, h6, h7⟩
  · exact absurd rfl hne
  · obtain rfl := Option.some.inj had
    obtain rfl := h5 rfl
    simp only at h4 h6 h7
    have hb := (Array.getElem?_eq_some_iff.1 h4).1
    refine ⟨some ⟨b, o, none⟩, c, by rw [hl], .inr ⟨_, rfl, h0, rfl, by rw [hl]; exact h2, h3, putCells id o (flatK Enc.cells (Enc.sz α) ys.toArray) C, T, (0, 0), ?_, fun _ => rfl, by simpa [putCells] using h6, ?_⟩⟩
    · simp only
      rw [Array.getElem?_append_left (by simpa using hb), Array.getElem?_modify]
      simp [h4, onCells]
    · rw [hl]
      simp only
      have hxl : (flat xs).length = xs.length * Enc.sz α := flat_length xs
      have hle : xs.length * Enc.sz α ≤ c * Enc.sz α := Nat.mul_le_mul_right _ h2
      apply List.ext_getElem?
      intro j
      by_cases hj : j < xs.length * Enc.sz α
      · have hF : (flatK (Enc.cells (α := α)) (Enc.sz α) ys.toArray).size = xs.length * Enc.sz α := by simp [hl]
        rw [List.getElem?_take_of_lt hj, List.getElem?_drop, Array.getElem?_toList, putCells_get, Array.getElem?_eq_getElem (by omega), Option.map_some, if_pos (by omega), Nat.add_sub_cancel_left, ← flatK_flat ys, Array.getElem?_toList, Array.getElem?_eq_getElem (by omega), getElem!_pos _ _ (by omega)]
      · rw [List.getElem?_eq_none (by simp; omega), List.getElem?_eq_none (by rw [flat_length, hl]; omega)]
theorem mod_put {h : Heap} {b : Nat} {f : Array Value → Array Value} {os : Array Obj} : Mod [b] h ((h.modify b (onCells f)) ++ os) := by
 refine ⟨by simp, fun i hi hn => ?_⟩
 rw [Array.getElem?_append_left (by simpa using hi), Array.getElem?_modify, if_neg (by simp at hn; omega)]
theorem sortFunc_ok {P : Program} {ρ : Ren} {α : Type} [Enc α] [Inhabited α] (L : SlLaysF0.n6 P ρ) (aE : ∀ w, (isAgg (ρ.t 24)).run P w = .ok true w) (zE : ∀ w, (Go.sizeOf (ρ.t 24)).run P w = .ok (Enc.sz α) w) (cf : α → α → Int) (hO : SWO (ltOf cf)) (g : Nat)
    (hc : ∀ (x y : α) (h : Heap), CallsH P g [.agg (Enc.cells x).toArray, .agg (Enc.cells y).toArray] h fun r h' => r = .int .i64 (cf x y) ∧ Ext h h') {f : FuncId} (hf : f = ρ.f 6) (hfn : ∃ fn, P.funcs[f]? = some fn ∧ fn.body.isSome = true ∧ (fn.name == "runtime.NumGoroutine") = false)
    (v : Value) (xs : List α) (h : Heap) (hs : SlO h v xs) (hne : xs ≠ []) (hl : xs.length ≤ 1000000) :
    CallsH P f [v, .func (.func g) #[] #[]] h fun r h' => ∃ ys : List α, r = .tuple #[] ∧ SlO h' v ys ∧ Mod (blks v) h h' ∧ ys.Perm xs ∧ ∀ (i j : Nat) (x y : α), i < j → ys[i]? = some x → ys[j]? = some y → ¬ cf y x < 0 := by
  refine ⟨hfn, fun w hw => ?_⟩
  subst hw
  obtain ⟨a, c, rfl⟩ := hs.shape
  have hs0 := hs
  obtain ⟨a', c', hv, hs'⟩ := hs
  simp only [Value.slice.injEq] at hv
  obtain ⟨rfl, -, rfl⟩ := hv
  rcases hs' with ⟨rfl, _⟩ | ⟨ad, rfl, h0, h1, h2, h3, C, T, fz, h4, h5, h6, h7⟩
  · exact absurd rfl hne
  obtain ⟨b, o, s⟩ := ad
  simp only at h1 h4 h6 h7
  subst h1
  have hb := (Array.getElem?_eq_some_iff.1 h4).1
  have eg : ∀ args w, (callFunc g args).run P w = .ok (.enter g args) w := by
    obtain ⟨fn, hfg, hbg, hng⟩ := (hc xs.toArray[0]! xs.toArray[0]! w.heap).out.1
    intro args w
    have hbn : fn.body.isNone = false := by cases h : fn.body <;> simp_all
    simp only [callFunc, Sem.run_bind, run_program, Result.andThen_ok, hfg, hng, hbn]
    rfl
  have hcmp : CmpLays P g #[] Enc.cells (Enc.sz α) cf b o xs.toArray.size w := by
    intro m os dk _ x y
    refine ((hc x y (sortWorldK Enc.cells (Enc.sz α) w b o m dk os).heap).out.2 _ rfl).mono ?_
    rintro e w' ⟨r, rfl, hsim, rfl, hext⟩
    exact ⟨rfl, world_grown hsim hext⟩
  have hm := AnyQ.slices_SortFunc L (Enc.sz α) aE zE Enc.cells Enc.len Enc.one cf hO g #[] b o c xs.toArray w eg hcmp (holdsK_of hs0 hne) hb (by simp; omega)
  rw [← hf] at hm
  refine hm.mono ?_
  rintro e w' ⟨rfl, d', n, os, hp, hsd, rfl⟩
  have hsz : d'.size = xs.length := by simpa using hp.1
  have hyl : d'.toList.length = xs.length := by simpa using hsz
  have hd : d'.toList.toArray = d' := by simp
  refine ⟨_, rfl, ⟨rfl, rfl, rfl, Nat.le_add_right _ _⟩, d'.toList, rfl, ?_, ?_, ?_, ?_⟩
  · have := slO_put hs0 hne hyl os
    rw [hd] at this
    exact this
  · rw [blks_pos h0]; exact mod_put
  · have := hp.2.2
    simp [hsz] at this
    rwa [List.take_of_length_le (by omega)] at this
  · intro i j x y hij hx hy hlt
    have hj := (List.getElem?_eq_some_iff.1 hy).1
    have hi := (List.getElem?_eq_some_iff.1 hx).1
    have := hsd i j (Nat.zero_le _) hij (by simp; omega)
    have e1 : d'[i]! = x := by
      rw [getElem!_pos _ _ (by simpa using hi)]
      have := (List.getElem?_eq_some_iff.1 hx).2
      simpa using this
    have e2 : d'[j]! = y := by
      rw [getElem!_pos _ _ (by simpa using hj)]
      have := (List.getElem?_eq_some_iff.1 hy).2
      simpa using this
    rw [e1, e2] at this
    simp [ltOf] at this
    omega
end Go.Vc

