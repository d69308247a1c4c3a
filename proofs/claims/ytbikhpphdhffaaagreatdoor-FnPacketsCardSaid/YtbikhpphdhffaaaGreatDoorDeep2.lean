/- Rows of elements that each hold a slice of their own. Condition: none. -/
import Derived.Test.YtbikhpphdhffaaaGreatDoorStep2
namespace Go.Vc
set_option linter.all false

/-- An element that holds a slice, and what this holds. -/
class Inn (γ : Type) (β : outParam Type) where
  sv : γ → SV
  sig : γ → List β

section
variable {γ β : Type} [Enc γ] [Enc β] [Inn γ β] {h h' : Heap} {v v' : Value} {ps : List γ} {lo : Nat}

/-- the blocks of a row and of its elements' slices -/
def fpts (v : Value) (ps : List γ) : List Nat := blks v ++ ps.flatMap fun p => blks (Inn.sv p).v
theorem mem_fpts {b : Nat} : b ∈ fpts v ps ↔ b ∈ blks v ∨ ∃ p ∈ ps, b ∈ blks (Inn.sv p).v := by simp [fpts]

structure DeepO (h : Heap) (v : Value) (ps : List γ) (lo : Nat) : Prop where
  row : SlO h v ps
  ins : ∀ p ∈ ps, SlO h (Inn.sv p).v (Inn.sig p)
  fr : ∀ b ∈ fpts v ps, lo ≤ b
  off : ∀ p ∈ ps, ∀ b ∈ blks (Inn.sv p).v, b ∉ blks v
  apart : ps.Pairwise fun p q => ∀ b ∈ blks (Inn.sv p).v, b ∉ blks (Inn.sv q).v

theorem DeepO.lt (D : DeepO h v ps lo) : ∀ b ∈ fpts v ps, b < h.size := by
  intro b hb
  rcases mem_fpts.1 hb with hb | ⟨p, hp, hb⟩
  · exact D.row.lt b hb
  · exact (D.ins p hp).lt b hb
theorem DeepO.frV (D : DeepO h v ps lo) : Fr lo v := fun b hb => D.fr b (mem_fpts.2 (.inl hb))
theorem DeepO.mono (D : DeepO h v ps lo) {lo' : Nat} (hl : lo' ≤ lo) : DeepO h v ps lo' := ⟨D.row, D.ins, fun b hb => Nat.le_trans hl (D.fr b hb), D.off, D.apart⟩
theorem DeepO.insL (D : DeepO h v ps lo) : ∀ p ∈ ps, Sl h (Inn.sv p).v (Inn.sig p) := fun p hp => (D.ins p hp).toSl
theorem DeepO.keep (D : DeepO h v ps lo) (hk : ∀ b ∈ fpts v ps, h'[b]? = h[b]?) : DeepO h' v ps lo :=
  ⟨D.row.keep fun b hb => hk b (mem_fpts.2 (.inl hb)), fun p hp => (D.ins p hp).keep fun b hb => hk b (mem_fpts.2 (.inr ⟨p, hp, hb⟩)), D.fr, D.off, D.apart⟩
theorem DeepO.ext (D : DeepO h v ps lo) (e : Ext h h') : DeepO h' v ps lo := D.keep fun b hb => e.blk b (D.lt b hb)
theorem DeepO.mod (D : DeepO h v ps lo) {bs : List Nat} (m : Mod bs h h') (hd : ∀ b ∈ fpts v ps, b ∉ bs) : DeepO h' v ps lo := D.keep fun b hb => m.blk b (D.lt b hb) (hd b hb)
theorem DeepO.nil (h : Heap) (lo : Nat) : DeepO h (.slice none 0 0) ([] : List γ) lo :=
  ⟨SlX.nil true h, by simp, by simp [fpts, blks], by simp, List.Pairwise.nil⟩
theorem DeepO.eqv (D : DeepO h v ps lo) {qs : List γ} (e : ps = qs) : DeepO h v qs lo := e ▸ D
theorem DeepO.rowEq (D : DeepO h v ps lo) {qs : List γ} (e : ps = qs) : SlO h v qs := e ▸ D.row

/-- one more element behind the last; its slice is its own -/
theorem DeepO.snoc (D : DeepO h v ps lo) {e : γ} (se : SlO h (Inn.sv e).v (Inn.sig e)) (fe : Fr lo (Inn.sv e).v) (ap : ∀ b ∈ blks (Inn.sv e).v, b ∉ fpts v ps) (hlo : lo ≤ h.size)
    (m : Mod (blks v) h h') (s' : SlO h' v' (ps ++ [e])) (ab : ∀ b ∈ blks v', b ∈ blks v ∨ h.size ≤ b) : DeepO h' v' (ps ++ [e]) lo := by
  have hlt := D.lt
  refine ⟨s', fun p hp => ?_, fun b hb => ?_, fun p hp b hb hc => ?_, ?_⟩
  · rcases List.mem_append.1 hp with hp | hp
    · exact (D.ins p hp).mod m (D.off p hp)
    · obtain rfl := List.mem_singleton.1 hp
      exact se.mod m (fun b hb hc => ap b hb (mem_fpts.2 (.inl hc)))
  · rcases mem_fpts.1 hb with hb2 | ⟨p, hp, hb2⟩
    · rcases ab b hb2 with h1 | h1
      · exact D.frV b h1
      · omega
    · rcases List.mem_append.1 hp with hp | hp
      · exact D.fr b (mem_fpts.2 (.inr ⟨p, hp, hb2⟩))
      · obtain rfl := List.mem_singleton.1 hp
        exact fe b hb2
  · rcases List.mem_append.1 hp with hp | hp
    · rcases ab b hc with h1 | h1
      · exact D.off p hp b hb h1
      · have := hlt b (mem_fpts.2 (.inr ⟨p, hp, hb⟩)); omega
    · obtain rfl := List.mem_singleton.1 hp
      rcases ab b hc with h1 | h1
      · exact ap b hb (mem_fpts.2 (.inl h1))
      · have := se.lt b hb; omega
  · rw [List.pairwise_append]
    refine ⟨D.apart, List.pairwise_singleton _ _, fun p hp q hq b hb hc => ?_⟩
    obtain rfl := List.mem_singleton.1 hq
    exact ap b hc (mem_fpts.2 (.inr ⟨p, hp, hb⟩))

theorem DeepO.snocOut {e : γ} {b n : Nat} (ab : ∀ b ∈ blks v', b ∈ blks v ∨ n ≤ b) (h1 : b ∉ fpts v ps) (h2 : b ∉ blks (Inn.sv e).v) (h3 : b < n) : b ∉ fpts v' (ps ++ [e]) := by
  intro hc
  rcases mem_fpts.1 hc with hc2 | ⟨p, hp, hc2⟩
  · rcases ab b hc2 with h4 | h4
    · exact h1 (mem_fpts.2 (.inl h4))
    · omega
  · rcases List.mem_append.1 hp with hp | hp
    · exact h1 (mem_fpts.2 (.inr ⟨p, hp, hc2⟩))
    · obtain rfl := List.mem_singleton.1 hp
      exact h2 hc2

/-- one element laid anew into its place; its slice is its own -/
theorem DeepO.set (D : DeepO h v ps lo) {e : γ} {k : Nat} (se : SlO h (Inn.sv e).v (Inn.sig e)) (fe : Fr lo (Inn.sv e).v) (ap : ∀ b ∈ blks (Inn.sv e).v, b ∉ fpts v ps)
    (m : Mod (blks v) h h') (s' : SlO h' v (ps.set k e)) : DeepO h' v (ps.set k e) lo := by
  refine ⟨s', fun p hp => ?_, fun b hb => ?_, fun p hp b hb hc => ?_, ?_⟩
  · rcases List.mem_or_eq_of_mem_set hp with hp | rfl
    · exact (D.ins p hp).mod m (D.off p hp)
    · exact se.mod m (fun b hb hc => ap b hb (mem_fpts.2 (.inl hc)))
  · rcases mem_fpts.1 hb with hb2 | ⟨p, hp, hb2⟩
    · exact D.frV b hb2
    · rcases List.mem_or_eq_of_mem_set hp with hp | rfl
      · exact D.fr b (mem_fpts.2 (.inr ⟨p, hp, hb2⟩))
      · exact fe b hb2
  · rcases List.mem_or_eq_of_mem_set hp with hp | rfl
    · exact D.off p hp b hb hc
    · exact ap b hb (mem_fpts.2 (.inl hc))
  · rw [List.pairwise_iff_getElem]
    intro i j hi hj hij b hb hc
    rw [List.length_set] at hi hj
    rw [List.getElem_set] at hb hc
    have hA := List.pairwise_iff_getElem.1 D.apart i j hi hj hij
    split at hb
    · split at hc
      · omega
      · exact ap b hb (mem_fpts.2 (.inr ⟨_, List.getElem_mem hj, hc⟩))
    · split at hc
      · exact ap b hc (mem_fpts.2 (.inr ⟨_, List.getElem_mem hi, hb⟩))
      · exact hA b hb hc

/-- an element changed in its plain parts, or its slice's data turned in place -/
theorem DeepO.turn (D : DeepO h v ps lo) {e e' : γ} {k : Nat} (hk : ps[k]? = some e) (hsv : Inn.sv e' = Inn.sv e) (m1 : Mod (blks v ++ blks (Inn.sv e).v) h h') (s' : SlO h' v (ps.set k e')) (se : SlO h' (Inn.sv e').v (Inn.sig e')) : DeepO h' v (ps.set k e') lo := by
  have hlt := (List.getElem?_eq_some_iff.1 hk).1
  have hke : ps[k] = e := (List.getElem?_eq_some_iff.1 hk).2
  have hin : e ∈ ps := List.mem_of_getElem? hk
  refine ⟨s', fun p hp => ?_, fun b hb => ?_, fun p hp b hb hc => ?_, ?_⟩
  · obtain ⟨i, hi, hpe⟩ := List.getElem_of_mem hp
    rw [List.length_set] at hi
    rw [List.getElem_set] at hpe
    split at hpe
    · subst hpe; exact se
    · rename_i hne
      subst hpe
      refine (D.ins _ (List.getElem_mem hi)).mod m1 fun b hb hc => ?_
      rcases List.mem_append.1 hc with hc | hc
      · exact D.off _ (List.getElem_mem hi) b hb hc
      · rw [← hke] at hc
        rcases Nat.lt_or_gt_of_ne hne with hij | hij
        · exact List.pairwise_iff_getElem.1 D.apart k i hlt hi hij b hc hb
        · exact List.pairwise_iff_getElem.1 D.apart i k hi hlt hij b hb hc
  · rcases mem_fpts.1 hb with hb2 | ⟨p, hp, hb2⟩
    · exact D.frV b hb2
    · rcases List.mem_or_eq_of_mem_set hp with hp | rfl
      · exact D.fr b (mem_fpts.2 (.inr ⟨p, hp, hb2⟩))
      · rw [hsv] at hb2; exact D.fr b (mem_fpts.2 (.inr ⟨e, hin, hb2⟩))
  · rcases List.mem_or_eq_of_mem_set hp with hp | rfl
    · exact D.off p hp b hb hc
    · rw [hsv] at hb; exact D.off e hin b hb hc
  · rw [List.pairwise_iff_getElem]
    intro i j hi hj hij b hb hc
    rw [List.length_set] at hi hj
    have hA := List.pairwise_iff_getElem.1 D.apart i j hi hj hij
    rw [List.getElem_set] at hb hc
    split at hb
    · rename_i hki
      split at hc
      · omega
      · subst hki; rw [hsv, ← hke] at hb; exact hA b hb hc
    · split at hc
      · rename_i hkj; subst hkj; rw [hsv, ← hke] at hc; exact hA b hb hc
      · exact hA b hb hc

theorem DeepO.turnRow (D : DeepO h v ps lo) {e e' : γ} {k : Nat} (hk : ps[k]? = some e) (hsv : Inn.sv e' = Inn.sv e) (hsig : Inn.sig e' = Inn.sig e) (m : Mod (blks v) h h') (s' : SlO h' v (ps.set k e')) : DeepO h' v (ps.set k e') lo := by
  have hin : e ∈ ps := List.mem_of_getElem? hk
  refine D.turn hk hsv (m.weaken fun b hb _ => List.mem_append_left _ hb) s' ?_
  rw [hsv, hsig]
  exact (D.ins e hin).mod m (D.off e hin)
theorem DeepO.turnIn (D : DeepO h v ps lo) {e e' : γ} {k : Nat} (hk : ps[k]? = some e) (hsv : Inn.sv e' = Inn.sv e) (hc : Enc.cells e' = Enc.cells e) (m : Mod (blks (Inn.sv e).v) h h') (se : SlO h' (Inn.sv e).v (Inn.sig e')) : DeepO h' v (ps.set k e') lo := by
  have hin : e ∈ ps := List.mem_of_getElem? hk
  have hlt := (List.getElem?_eq_some_iff.1 hk).1
  have hke : ps[k] = e := (List.getElem?_eq_some_iff.1 hk).2
  refine D.turn hk hsv (m.weaken fun b hb _ => List.mem_append_right _ hb) ?_ (by rw [hsv]; exact se)
  have hr := D.row.mod m (fun b hb hc => D.off e hin b hc hb)
  obtain ⟨a, c, hv, hs⟩ := hr
  refine ⟨a, c, by rw [List.length_set]; exact hv, ?_⟩
  have hf : flat (ps.set k e') = flat ps := by
    have : ∀ (l : List γ) (k : Nat), l[k]? = some e → flat (l.set k e') = flat l := by
      intro l
      induction l with
      | nil => intro k h; simp at h
      | cons x l ih =>
        intro k h
        cases k with
        | zero => simp at h; subst h; simp [flat_cons, hc]
        | succ k => simp only [List.set_cons_succ, flat_cons]; rw [ih k (by simpa using h)]
    exact this ps k hk
  rcases hs with ⟨hp, hc0⟩ | ⟨ad, h1, h2, h3, h4, h5, C, T, fz, h6, h7, h8, h9⟩
  · exact .inl ⟨by rw [hp]; rfl, hc0⟩
  · exact .inr ⟨ad, h1, h2, h3, by rw [List.length_set]; exact h4, h5, C, T, fz, h6, h7, h8, by rw [List.length_set, hf]; exact h9⟩

theorem fpts_set {e e' : γ} {k : Nat} (hk : ps[k]? = some e) (hsv : Inn.sv e' = Inn.sv e) : fpts v (ps.set k e') = fpts v ps := by
  unfold fpts
  congr 1
  induction ps generalizing k with
  | nil => simp at hk
  | cons x l ih =>
    cases k with
    | zero => simp at hk; subst hk; simp [hsv]
    | succ k => simp only [List.set_cons_succ, List.flatMap_cons]; rw [ih (by simpa using hk)]

/-- new, of empty elements -/
theorem DeepO.made {n : Nat} {z : γ} (hz : (Inn.sv z).v = .slice none 0 0) (hg : Inn.sig z = []) (s : SlO h v (List.replicate n z)) (f : Fr lo v) : DeepO h v (List.replicate n z) lo := by
  have hb : ∀ p ∈ List.replicate n z, blks (Inn.sv p).v = [] := fun p hp => by rw [(List.mem_replicate.1 hp).2, hz]; rfl
  refine ⟨s, fun p hp => ?_, fun b hb' => ?_, fun p hp b hb' => ?_, ?_⟩
  · rw [(List.mem_replicate.1 hp).2, hz, hg]; exact SlX.nil true h
  · rcases mem_fpts.1 hb' with h1 | ⟨p, hp, h1⟩
    · exact f b h1
    · rw [hb p hp] at h1; cases h1
  · rw [hb p hp] at hb'; cases hb'
  · rw [List.pairwise_iff_getElem]
    intro i j hi hj _ b hb'
    rw [hb _ (List.getElem_mem hi)] at hb'; cases hb'
end

/-- a row of rows -/
structure RowI where
  sv : SV
  sig : List Int
instance : Enc RowI := ⟨1, fun p => [.slice p.sv.a p.sv.n p.sv.c], fun _ => rfl, by decide, fun _ _ h => by simp at h; subst h; rfl⟩
instance : Inn RowI Int := ⟨RowI.sv, RowI.sig⟩
end Go.Vc
