/- The laws' helpers on slices of ints: markIntS writes k, k + 1, .., heldIntS looks whether they are there. Condition: none. -/
import Derived.Test.YtbikhpphdhffaabDoorLaws1
namespace Go.Proofs.YtbikhpphdhffaabDoor
open Go.Vc

/-- k, k + 1, .. : n of them -/
def upto (k : Int) : Nat → List Int
  | 0 => []
  | n + 1 => k :: upto (k + 1) n
theorem upto_length (k : Int) (n : Nat) : (upto k n).length = n := by
  induction n generalizing k with
  | zero => rfl
  | succ n ih => simp [upto, ih]
theorem upto_get (k : Int) (n i : Nat) (h : i < n) : (upto k n)[i]? = some (k + i) := by
  induction n generalizing k i with
  | zero => omega
  | succ n ih =>
    cases i with
    | zero => simp [upto]
    | succ i =>
      simp only [upto, List.getElem?_cons_succ]
      rw [ih (k + 1) i (by omega)]
      congr 1
      omega
theorem upto_succ (k : Int) (n : Nat) : upto k (n + 1) = upto k n ++ [k + n] := by
  induction n generalizing k with
  | zero => simp [upto]
  | succ n ih =>
    rw [upto, ih (k + 1), upto]
    simp
    omega

end Go.Proofs.YtbikhpphdhffaabDoor

