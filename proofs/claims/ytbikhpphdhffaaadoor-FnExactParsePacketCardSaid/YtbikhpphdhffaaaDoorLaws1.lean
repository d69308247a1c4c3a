/- The laws' helpers on slices of ints: toIntS copies, eqIntS compares. Condition: none. -/
import Derived.Test.YtbikhpphdhffaaaDoorCode
import Derived.Test.YtbikhpphdhffaaaDoorLib1
namespace Go.Proofs.YtbikhpphdhffaaaDoor
open Go.Vc

abbrev Cn (f : Nat) (args : List Value) (h : Heap) (R : Value → Heap → Prop) : Prop := CallsH Tryd.prog f args h R

theorem eqIntS_ok (v u : Value) (xs ys : List Int) (h : Heap) (hx : Sl h v xs) (hy : Sl h u ys) :
    Cn f_laws_eqIntS [v, u] h fun r h' => r = .bool (decide (xs = ys)) ∧ h' = h := by
  refine calls_of r_laws_eqIntS ?_
  refine hx.lenVC (hy.lenVC ?_)
  refine CondVC.mk (fun hlen => ?_) (fun hlen => ?_)
  · exact ⟨bool_f (fun e => hlen (by rw [e])), rfl⟩
  have hl : xs.length = ys.length := by omega
  refine LoopVC.mk (α := Nat) (fun k => [(0, v), (1, u), (5, .int .i64 (k : Int))]) (fun k h2 => h2 = h ∧ k ≤ xs.length ∧ xs.take k = ys.take k) (fun k => xs.length - k) 0 ⟨rfl, rfl, rfl⟩ ⟨rfl, by omega, by simp⟩ ?_
  rintro k R h2 ⟨rfl, hk, heq⟩
  refine hx.lenVC ?_
  refine CondVC.mk (fun hlt => ?_) (fun hlt => ?_)
  · have hk' : k < xs.length := by omega
    have hk2 : k < ys.length := by omega
    refine hx.idx rfl hk' (hy.idx rfl hk2 ?_)
    refine hx.load1 (x := xs[k]) (by simp [hk']) rfl (hy.load1 (x := ys[k]) (by simp [hk2]) rfl ?_)
    refine CondVC.mk (fun hne => ?_) (fun hne => ?_)
    · refine ⟨bool_f (fun e => hne ?_), rfl⟩
      subst e; rfl
    · have he : xs[k] = ys[k] := by omega
      have hx63 := hx.len63
      refine ArithVC.mk (by omega) ?_
      refine ⟨k + 1, ⟨⟨rfl, rfl, rfl⟩, rfl, by omega, ?_⟩, by omega⟩
      rw [List.take_succ_eq_append_getElem hk', List.take_succ_eq_append_getElem hk2, heq, he]
  · have hk' : k = xs.length := by omega
    subst hk'
    rw [List.take_length, hl, List.take_length] at heq
    exact ⟨bool_t heq, rfl⟩

end Go.Proofs.YtbikhpphdhffaaaDoor

