/- Plain lemmas on lists, and rules that use them. Condition: none. -/
import Derived.Test.YtbikhpphdhffaaaGreatDoorBase11
namespace Go.Vc

theorem fill_step {α : Type} (xs : List α) (z : α) (k : Nat) (hk : k < xs.length) :
    (xs.take k ++ List.replicate (xs.length - k) z).set k xs[k] = xs.take (k + 1) ++ List.replicate (xs.length - (k + 1)) z := by
  have hl : (xs.take k).length = k := by simp; omega
  rw [List.set_append_right _ _ (by omega), hl, Nat.sub_self]
  have : xs.length - k = (xs.length - (k + 1)) + 1 := by omega
  rw [this, List.replicate_succ, List.set_cons_zero, List.take_succ_eq_append_getElem hk, List.append_assoc]
  rfl
theorem fill_done {α : Type} (xs : List α) (z : α) : xs.take xs.length ++ List.replicate (xs.length - xs.length) z = xs := by simp

theorem get_mid {α : Type} (a : List α) (x : α) (b : List α) : (a ++ x :: b)[a.length]? = some x := by simp
theorem len_mid {α : Type} (a : List α) (x : α) (b : List α) : a.length < (a ++ x :: b).length := by simp

/-- make, the length as an integer -/
theorem SlX.makeI {α : Type} [Enc α] {h : Heap} {n : Nat} {m : Int} (z : α) (hm : m = (n : Int)) {k k' : IntKind} {e : TypeId} {sz bytes : Nat} {zero : List Value} (hz : zero = Enc.cells z) (hsz : sz = Enc.sz α) (hn : n ≤ maxLen) (hb : n * bytes ≤ 281474976710656) {K : Value → Heap → Prop}
    (hk : ∀ v h', Ext h h' → h'.size = h.size + 1 → SlO h' v (List.replicate n z) → Fr h.size v → K v h') : MkVC h e sz bytes zero (.int k m) (.int k' m) K := by
  subst hm
  exact SlX.make n z hz hsz hn hb hk
end Go.Vc
