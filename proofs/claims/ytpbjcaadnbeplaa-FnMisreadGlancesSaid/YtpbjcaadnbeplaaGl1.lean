/- The laws' helpers on Glance: what they return. Condition: none. Printed by a program. -/
import Derived.Test.YtpbjcaadnbeplaaFlat0
namespace Go.Proofs.Ytpbjcaadnbeplaa
open Go.Vc

/-- the marks from k on, n of them -/
def glanceMk (k : Int) : Nat → List GlanceD
  | 0 => []
  | n + 1 => ⟨(k % 3 == 0), (k + 1)⟩ :: glanceMk (k + 2) n
theorem glanceMk_length (k : Int) (n : Nat) : (glanceMk k n).length = n := by
  induction n generalizing k with
  | zero => rfl
  | succ n ih => simp [glanceMk, ih]
theorem glanceMk_get (k : Int) (n i : Nat) (h : i < n) : (glanceMk k n)[i]? = some ⟨((k + 2 * (i : Int)) % 3 == 0), ((k + 2 * (i : Int)) + 1)⟩ := by
  induction n generalizing k i with
  | zero => omega
  | succ n ih =>
    cases i with
    | zero => simp [glanceMk]
    | succ i =>
      simp only [glanceMk, List.getElem?_cons_succ]
      rw [ih (k + 2) i (by omega)]
      have e : k + 2 + 2 * (i : Int) = k + 2 * ((i + 1 : Nat) : Int) := by omega
      rw [e]
theorem glanceMk_succ (k : Int) (n : Nat) : glanceMk k (n + 1) = glanceMk k n ++ [⟨((k + 2 * (n : Int)) % 3 == 0), ((k + 2 * (n : Int)) + 1)⟩] := by
  induction n generalizing k with
  | zero => simp [glanceMk]
  | succ n ih =>
    rw [glanceMk, ih (k + 2), glanceMk]
    have e : k + 2 + 2 * (n : Int) = k + 2 * ((n + 1 : Nat) : Int) := by omega
    rw [e]
    rfl

end Go.Proofs.Ytpbjcaadnbeplaa

