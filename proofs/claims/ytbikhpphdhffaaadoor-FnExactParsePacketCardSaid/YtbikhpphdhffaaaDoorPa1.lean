/- The laws' helpers on Packet: what they return. Condition: none. Printed by a program. -/
import Derived.Test.YtbikhpphdhffaaaDoorPa0
namespace Go.Proofs.YtbikhpphdhffaaaDoor
open Go.Vc

theorem eqPacket_ok (a0 : Int) (a1 : Int) (a2 : Int) (a3 : Value) (x3 : List Int) (b0 : Int) (b1 : Int) (b2 : Int) (b3 : Value) (y3 : List Int) (h : Heap) (sa3 : Sl h a3 x3) (sb3 : Sl h b3 y3) :
    Cn f_laws_eqPacket [.agg #[.int .i64 a0, .int .i64 a1, .int .i64 a2, a3], .agg #[.int .i64 b0, .int .i64 b1, .int .i64 b2, b3]] h fun v h' => v = .bool (decide (a0 = b0 ∧ a1 = b1 ∧ a2 = b2 ∧ x3 = y3)) ∧ Ext h h' := by
  refine calls_of r_laws_eqPacket ?_
  refine AllocVC.mk [.int .i64 a0, .int .i64 a1, .int .i64 a2, a3] rfl (fun h1 p1 hp1 hz1 e1 bx1 => ?_)
  refine AllocVC.mk [.int .i64 b0, .int .i64 b1, .int .i64 b2, b3] rfl (fun h2 p2 hp2 hz2 e2 bx2 => ?_)
  have bx1 := bx1.ext e2
  have E := e1.trans e2
  refine bx1.load rfl (bx2.load rfl ?_)
  refine CondVC.mk (fun c0 => ⟨bool_f (fun ⟨q0, q1, q2, q3⟩ => c0 q0), E⟩) (fun c0 => ?_)
  have c0 := Classical.not_not.1 c0
  refine bx1.load rfl (bx2.load rfl ?_)
  refine CondVC.mk (fun c1 => ⟨bool_f (fun ⟨q0, q1, q2, q3⟩ => c1 q1), E⟩) (fun c1 => ?_)
  have c1 := Classical.not_not.1 c1
  refine bx1.load rfl (bx2.load rfl ?_)
  refine CondVC.mk (fun c2 => ⟨bool_f (fun ⟨q0, q1, q2, q3⟩ => c2 q2), E⟩) (fun c2 => ?_)
  have c2 := Classical.not_not.1 c2
  refine bx1.load rfl (bx2.load rfl ?_)
  refine (eqIntS_ok _ _ _ _ _ (sa3.ext E) (sb3.ext E)).mono ?_
  rintro _ h2 ⟨rfl, rfl⟩
  refine CondVC.mk (fun c3 => ⟨bool_f (fun ⟨q0, q1, q2, q3⟩ => c3 q3), E⟩) (fun c3 => ?_)
  have c3 := Classical.not_not.1 c3
  exact ⟨bool_t ⟨c0, c1, c2, c3⟩, E⟩
end Go.Proofs.YtbikhpphdhffaaaDoor

