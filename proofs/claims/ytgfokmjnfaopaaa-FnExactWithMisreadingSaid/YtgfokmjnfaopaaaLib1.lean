/- Plain lemmas on lists, and rules that use them. Condition: none. -/
import Derived.Test.YtgfokmjnfaopaaaBase11
namespace Go.Vc

theorem fill_step {α : Type} (xs : List α) (z : α) (k : Nat) (hk : k < xs.length) :
    (xs.take k ++ List.replicate (xs.length - k) z).set k xs[k] = xs.take (k + 1) ++ List.replicate (xs.length - (k + 1)) z := by
  have hl : (xs.take k).length = k := by simp; omega
  rw [List.set_append_right _ _ (by omega), hl, Nat.sub_self]
  have : xs.length - k = (xs.length - (k + 1)) + 1 := by omega
  rw [this, List.replicate_succ, List.set_cons_zero, List.take_succ_eq_append_getElem hk, List.append_assoc]
  rfl
theorem fill_done {α : Type} (xs : List α) (z : α) : xs.take xs.length ++ List.replicate (xs.length - xs.length) z = xs := by simp

theorem get_mid {α : Type} (a : List α) (x : α) (b : List α) : (a ++ x :: b)[a.length]? = some x := by simp
theorem len_mid {α : Type} (a : List α) (x : α) (b : List α) : a.length < (a ++ x :: b).length := by simp
end Go.Vc
