/- Steps for strings of bytes. Condition: none. -/
import Derived.Test.YtbikhpphdhffaaaDoorStep2
namespace Go.Vc
set_option linter.all false
theorem s_bstr {P : Program} {l : List MStep} {E : Env} {h : Heap} {K : Env → Heap → Prop} {d : Nat} {x : Operand} {v : Value} {own : Bool} {xs : List By} (hs : SlX own h v xs) (hx : ev E x = v)
    (hk : vcOps P l (E.put d (.string (bstr (xs.map By.n)))) h K) : vcOps P (.op ⟨some d, .eff (.bstr x), none⟩ :: l) E h K := by
  show BstrVC h (ev E x) _
  rw [hx]
  have hs0 := hs
  obtain ⟨a, c, rfl, hs'⟩ := hs
  rcases hs' with ⟨rfl, hc⟩ | ⟨ad, rfl, g0, g1, g2, g3, C, T, fz, g4, g5, g6, g7⟩
  · refine ⟨a, 0, c, [], rfl, rfl, ?_, hk⟩
    cases a with
    | none => rfl
    | some a => intro j u hj; simp at hj
  · refine ⟨some ad, xs.length, c, xs.map By.n, rfl, by simp, ?_, hk⟩
    intro j u hj
    rw [List.map_map, List.getElem?_map] at hj
    cases hx : xs[j]? with
    | none => rw [hx] at hj; cases hj
    | some b =>
      rw [hx] at hj
      have := hs0.cell hx (j := 0) (by decide)
      obtain ⟨bk, o, s⟩ := ad
      simp only at g1
      subst g1
      have e : (Addr.add ⟨bk, o, none⟩ j) = ⟨bk, o + j * 1 + 0, none⟩ := by simp [Addr.add]
      rw [e, ← hj]
      exact this
theorem conv_u8 {a : Int} {K : Value → Prop} (hb : 0 ≤ a ∧ a ≤ 255) (q : K (.int .u8 a)) : K (.int .u8 (IntKind.u8.wrap a)) := by
  have : IntKind.u8.wrap a = a := by rw [IntKind.wrap_u8]; omega
  rw [this]; exact q
end Go.Vc
