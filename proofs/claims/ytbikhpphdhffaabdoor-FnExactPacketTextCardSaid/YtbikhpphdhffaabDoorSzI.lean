/- The law's helper szIntS. Condition: none. -/
import Derived.Test.YtbikhpphdhffaabDoorLaws1
namespace Go.Proofs.YtbikhpphdhffaabDoor
open Go.Vc
theorem szIntS_ok (v : Value) (xs : List Int) (k : Int) (h : Heap) (hs : Sl h v xs) (h0 : 0 ≤ k) (h1 : k ≤ 1048576) :
    Cn f_laws_szIntS [v, .int .i64 k] h fun r h' => ∃ m : Int, r = .int .i64 m ∧ Ext h h' ∧ (0 ≤ m → m = k - (xs.length : Int)) ∧ m ≤ k := by
  refine calls_of r_laws_szIntS ?_
  refine hs.lenVC ?_
  have := hs.len63
  refine ArithVC.mk (by omega) ?_
  refine CondVC.mk (fun c => ?_) (fun c => ?_)
  · exact ⟨-1, rfl, Ext.refl h, by omega, by omega⟩
  · exact ⟨_, rfl, Ext.refl h, fun _ => rfl, by omega⟩
end Go.Proofs.YtbikhpphdhffaabDoor

