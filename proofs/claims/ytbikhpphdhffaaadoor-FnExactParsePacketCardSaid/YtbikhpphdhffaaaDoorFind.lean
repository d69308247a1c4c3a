/- Where the first element lies of which a test holds. Condition: none. -/
import Derived.Test.YtbikhpphdhffaaaDoorRes
namespace Go.Vc
/-- the index of the first element of which p holds, or -1 -/
def firstF {α : Type} (p : α → Bool) : List α → Nat → Int
  | [], _ => -1
  | x :: xs, i => bif p x then (i : Int) else firstF p xs (i + 1)
theorem firstF_nonneg {α : Type} (p : α → Bool) : ∀ (xs : List α) (i : Nat), 0 ≤ firstF p xs i ↔ xs.any p = true
  | [], i => by simp [firstF]
  | x :: xs, i => by
    simp only [firstF, List.any_cons]
    cases p x with
    | true => simp
    | false => simpa using firstF_nonneg p xs (i + 1)
theorem firstF_bound {α : Type} (p : α → Bool) : ∀ (xs : List α) (i : Nat), -1 ≤ firstF p xs i ∧ firstF p xs i < (i : Int) + xs.length ∨ firstF p xs i = -1
  | [], i => by simp [firstF]
  | x :: xs, i => by
    simp only [firstF]
    cases p x with
    | true => left; simp only [cond_true, List.length_cons]; omega
    | false =>
      have := firstF_bound p xs (i + 1)
      simp only [cond_false, List.length_cons]; omega
theorem NilVC.mk {a : Option Addr} {n c : Nat} {ng : Bool} {K : Value → Prop} (hk : K (.bool (bif ng then !a.isNone else a.isNone))) : NilVC (.slice a n c) ng K := ⟨a, n, c, rfl, hk⟩
/-- a test for nil: a nil slice has no elements -/
theorem SlX.nilVC {α : Type} [Enc α] {own : Bool} {h : Heap} {v : Value} {xs : List α} (hs : SlX own h v xs) {K : Value → Prop} (h0 : xs = [] → K (.bool true)) (h1 : K (.bool false)) : NilVC v false K := by
  obtain ⟨a, c, rfl, hs⟩ := hs
  refine ⟨a, _, c, rfl, ?_⟩
  cases a with
  | none =>
    refine h0 ?_
    rcases hs with ⟨h, _⟩ | ⟨ad, h, _⟩
    · exact h
    · cases h
  | some a => exact h1
end Go.Vc

