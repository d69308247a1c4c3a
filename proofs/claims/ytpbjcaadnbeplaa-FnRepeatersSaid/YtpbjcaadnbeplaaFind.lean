/- Where the first element lies of which a test holds. Condition: none. -/
import Derived.Test.YtpbjcaadnbeplaaRes
namespace Go.Vc
/-- the index of the first element of which p holds, or -1 -/
def firstF {α : Type} (p : α → Bool) : List α → Nat → Int
  | [], _ => -1
  | x :: xs, i => bif p x then (i : Int) else firstF p xs (i + 1)
theorem firstF_nonneg {α : Type} (p : α → Bool) : ∀ (xs : List α) (i : Nat), 0 ≤ firstF p xs i ↔ xs.any p = true
  | [], i => by simp [firstF]
  | x :: xs, i => by
    simp only [firstF, List.any_cons]
    cases p x with
    | true => simp
    | false => simpa using firstF_nonneg p xs (i + 1)
theorem NilVC.mk {a : Option Addr} {n c : Nat} {ng : Bool} {K : Value → Prop} (hk : K (.bool (bif ng then !a.isNone else a.isNone))) : NilVC (.slice a n c) ng K := ⟨a, n, c, rfl, hk⟩
end Go.Vc


