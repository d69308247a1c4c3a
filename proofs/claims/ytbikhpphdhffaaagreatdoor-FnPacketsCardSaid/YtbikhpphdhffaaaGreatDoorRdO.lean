/- Rows of elements whose slices are read alone. Condition: none. -/
import Derived.Test.YtbikhpphdhffaaaGreatDoorDeep2
namespace Go.Vc
set_option linter.all false
section
variable {γ β : Type} [Enc γ] [Enc β] [Inn γ β] {h h' : Heap} {v v' : Value} {ps : List γ} {lo : Nat}
structure RdO (h : Heap) (v : Value) (ps : List γ) (lo : Nat) : Prop where
  row : SlO h v ps
  insL : ∀ p ∈ ps, Sl h (Inn.sv p).v (Inn.sig p)
  fr : ∀ b ∈ fpts v ps, lo ≤ b
  off : ∀ p ∈ ps, ∀ b ∈ blks (Inn.sv p).v, b ∉ blks v
theorem RdO.of (D : DeepO h v ps lo) : RdO h v ps lo := ⟨D.row, D.insL, D.fr, D.off⟩
theorem RdO.lt (D : RdO h v ps lo) : ∀ b ∈ fpts v ps, b < h.size := by
  intro b hb
  rcases mem_fpts.1 hb with hb | ⟨p, hp, hb⟩
  · exact D.row.lt b hb
  · exact (D.insL p hp).lt b hb
theorem RdO.mono (D : RdO h v ps lo) {lo' : Nat} (hl : lo' ≤ lo) : RdO h v ps lo' := ⟨D.row, D.insL, fun b hb => Nat.le_trans hl (D.fr b hb), D.off⟩
theorem RdO.keep (D : RdO h v ps lo) (hk : ∀ b ∈ fpts v ps, h'[b]? = h[b]?) : RdO h' v ps lo :=
  ⟨D.row.keep fun b hb => hk b (mem_fpts.2 (.inl hb)), fun p hp => (D.insL p hp).keep fun b hb => hk b (mem_fpts.2 (.inr ⟨p, hp, hb⟩)), D.fr, D.off⟩
theorem RdO.ext (D : RdO h v ps lo) (e : Ext h h') : RdO h' v ps lo := D.keep fun b hb => e.blk b (D.lt b hb)
theorem RdO.mod (D : RdO h v ps lo) {bs : List Nat} (m : Mod bs h h') (hd : ∀ b ∈ fpts v ps, b ∉ bs) : RdO h' v ps lo := D.keep fun b hb => m.blk b (D.lt b hb) (hd b hb)
theorem RdO.nil (h : Heap) (lo : Nat) : RdO h (.slice none 0 0) ([] : List γ) lo := ⟨SlX.nil true h, by simp, by simp [fpts, blks], by simp⟩
theorem RdO.snoc (D : RdO h v ps lo) {e : γ} {own : Bool} (se : SlX own h (Inn.sv e).v (Inn.sig e)) (fe : Fr lo (Inn.sv e).v) (ap : ∀ b ∈ blks (Inn.sv e).v, b ∉ blks v) (hlo : lo ≤ h.size)
    (m : Mod (blks v) h h') (s' : SlO h' v' (ps ++ [e])) (ab : ∀ b ∈ blks v', b ∈ blks v ∨ h.size ≤ b) : RdO h' v' (ps ++ [e]) lo := by
  have hlt := D.lt
  refine ⟨s', fun p hp => ?_, fun b hb => ?_, fun p hp b hb hc => ?_⟩
  · rcases List.mem_append.1 hp with hp | hp
    · exact (D.insL p hp).mod m (D.off p hp)
    · obtain rfl := List.mem_singleton.1 hp
      exact se.toSl.mod m ap
  · rcases mem_fpts.1 hb with hb2 | ⟨p, hp, hb2⟩
    · rcases ab b hb2 with h1 | h1
      · exact D.fr b (mem_fpts.2 (.inl h1))
      · omega
    · rcases List.mem_append.1 hp with hp | hp
      · exact D.fr b (mem_fpts.2 (.inr ⟨p, hp, hb2⟩))
      · obtain rfl := List.mem_singleton.1 hp
        exact fe b hb2
  · rcases List.mem_append.1 hp with hp | hp
    · rcases ab b hc with h1 | h1
      · exact D.off p hp b hb h1
      · have := hlt b (mem_fpts.2 (.inr ⟨p, hp, hb⟩)); omega
    · obtain rfl := List.mem_singleton.1 hp
      rcases ab b hc with h1 | h1
      · exact ap b hb h1
      · have := se.toSl.lt b hb; omega
theorem RdO.set (D : RdO h v ps lo) {e : γ} {k : Nat} {own : Bool} (se : SlX own h (Inn.sv e).v (Inn.sig e)) (fe : Fr lo (Inn.sv e).v) (ap : ∀ b ∈ blks (Inn.sv e).v, b ∉ blks v)
    (m : Mod (blks v) h h') (s' : SlO h' v (ps.set k e)) : RdO h' v (ps.set k e) lo := by
  refine ⟨s', fun p hp => ?_, fun b hb => ?_, fun p hp b hb hc => ?_⟩
  · rcases List.mem_or_eq_of_mem_set hp with hp | rfl
    · exact (D.insL p hp).mod m (D.off p hp)
    · exact se.toSl.mod m ap
  · rcases mem_fpts.1 hb with hb2 | ⟨p, hp, hb2⟩
    · exact D.fr b (mem_fpts.2 (.inl hb2))
    · rcases List.mem_or_eq_of_mem_set hp with hp | rfl
      · exact D.fr b (mem_fpts.2 (.inr ⟨p, hp, hb2⟩))
      · exact fe b hb2
  · rcases List.mem_or_eq_of_mem_set hp with hp | rfl
    · exact D.off p hp b hb hc
    · exact ap b hb hc
/-- a row made anew out of what an old one held, and one more -/
theorem RdO.mid {e : γ} {k lo2 : Nat} {own : Bool} (D : RdO h v ps lo) (se : SlX own h (Inn.sv e).v (Inn.sig e)) (fe : Fr lo (Inn.sv e).v) (s' : SlO h v' (ps.take k ++ [e] ++ ps.drop k)) (f' : Fr lo2 v') (hl : lo ≤ lo2) (hD : ∀ b ∈ fpts v ps, b < lo2) (he : ∀ b ∈ blks (Inn.sv e).v, b < lo2) : RdO h v' (ps.take k ++ [e] ++ ps.drop k) lo := by
  have hin : ∀ p ∈ ps.take k ++ [e] ++ ps.drop k, p ∈ ps ∨ p = e := by
    intro p hp
    rcases List.mem_append.1 hp with hp | hp
    · rcases List.mem_append.1 hp with hp | hp
      · exact .inl (List.mem_of_mem_take hp)
      · exact .inr (List.mem_singleton.1 hp)
    · exact .inl (List.mem_of_mem_drop hp)
  refine ⟨s', fun p hp => ?_, fun b hb => ?_, fun p hp b hb hc => ?_⟩
  · rcases hin p hp with hp | rfl
    · exact D.insL p hp
    · exact se.toSl
  · rcases mem_fpts.1 hb with hb2 | ⟨p, hp, hb2⟩
    · have := f' b hb2; omega
    · rcases hin p hp with hp | rfl
      · exact D.fr b (mem_fpts.2 (.inr ⟨p, hp, hb2⟩))
      · exact fe b hb2
  · have := f' b hc
    rcases hin p hp with hp | rfl
    · have := hD b (mem_fpts.2 (.inr ⟨p, hp, hb⟩)); omega
    · have := he b hb; omega
end
end Go.Vc
