/- The laws' helpers on Repeater: what they return. Condition: none. Printed by a program. -/
import Derived.Test.YtgfokmjnfaopaaaRep0
namespace Go.Proofs.Ytgfokmjnfaopaaa
open Go.Vc

theorem szRepeater_ok (a0 : Int) (a1 : Int) (a2 : Int) (a3 : Int) (a4 : Value) (x4 : List Int) (k : Int) (h : Heap) (sa4 : Sl h a4 x4) (h0 : 0 ≤ k) (h1 : k ≤ 1048576) :
    Cn f_laws_szRepeater [.agg #[.int .i64 a0, .int .i64 a1, .int .i64 a2, .int .i64 a3, a4], .int .i64 k] h fun v h' => ∃ m : Int, v = .int .i64 m ∧ Ext h h' ∧ (0 ≤ m → m = k - (x4.length : Int)) ∧ m ≤ k := by
  refine calls_of r_laws_szRepeater ?_
  refine AllocVC.mk [.int .i64 a0, .int .i64 a1, .int .i64 a2, .int .i64 a3, a4] rfl (fun h2 b hb hz e bx => ?_)
  refine bx.load rfl ?_
  refine (szIntS_ok _ _ _ _ (sa4.ext e) (by omega) (by omega)).mono ?_
  rintro _ h7 ⟨m4, rfl, e4, hm4, hk4⟩
  have E4 := e.trans e4
  have bx := bx.ext e4
  refine CondVC.mk (fun _ => ⟨-1, rfl, E4, by omega, by omega⟩) (fun c4 => ?_)
  exact ⟨_, rfl, E4, by omega, by omega⟩

theorem eqRepeater_ok (a0 : Int) (a1 : Int) (a2 : Int) (a3 : Int) (a4 : Value) (x4 : List Int) (b0 : Int) (b1 : Int) (b2 : Int) (b3 : Int) (b4 : Value) (y4 : List Int) (h : Heap) (sa4 : Sl h a4 x4) (sb4 : Sl h b4 y4) :
    Cn f_laws_eqRepeater [.agg #[.int .i64 a0, .int .i64 a1, .int .i64 a2, .int .i64 a3, a4], .agg #[.int .i64 b0, .int .i64 b1, .int .i64 b2, .int .i64 b3, b4]] h fun v h' => v = .bool (decide (a0 = b0 ∧ a1 = b1 ∧ a2 = b2 ∧ a3 = b3 ∧ x4 = y4)) ∧ Ext h h' := by
  refine calls_of r_laws_eqRepeater ?_
  refine AllocVC.mk [.int .i64 a0, .int .i64 a1, .int .i64 a2, .int .i64 a3, a4] rfl (fun h1 p1 hp1 hz1 e1 bx1 => ?_)
  refine AllocVC.mk [.int .i64 b0, .int .i64 b1, .int .i64 b2, .int .i64 b3, b4] rfl (fun h2 p2 hp2 hz2 e2 bx2 => ?_)
  have bx1 := bx1.ext e2
  have E := e1.trans e2
  refine bx1.load rfl (bx2.load rfl ?_)
  refine CondVC.mk (fun c0 => ⟨bool_f (fun ⟨q0, q1, q2, q3, q4⟩ => c0 q0), E⟩) (fun c0 => ?_)
  have c0 := Classical.not_not.1 c0
  refine bx1.load rfl (bx2.load rfl ?_)
  refine CondVC.mk (fun c1 => ⟨bool_f (fun ⟨q0, q1, q2, q3, q4⟩ => c1 q1), E⟩) (fun c1 => ?_)
  have c1 := Classical.not_not.1 c1
  refine bx1.load rfl (bx2.load rfl ?_)
  refine CondVC.mk (fun c2 => ⟨bool_f (fun ⟨q0, q1, q2, q3, q4⟩ => c2 q2), E⟩) (fun c2 => ?_)
  have c2 := Classical.not_not.1 c2
  refine bx1.load rfl (bx2.load rfl ?_)
  refine CondVC.mk (fun c3 => ⟨bool_f (fun ⟨q0, q1, q2, q3, q4⟩ => c3 q3), E⟩) (fun c3 => ?_)
  have c3 := Classical.not_not.1 c3
  refine bx1.load rfl (bx2.load rfl ?_)
  refine (eqIntS_ok _ _ _ _ _ (sa4.ext E) (sb4.ext E)).mono ?_
  rintro _ h2 ⟨rfl, rfl⟩
  refine CondVC.mk (fun c4 => ⟨bool_f (fun ⟨q0, q1, q2, q3, q4⟩ => c4 q4), E⟩) (fun c4 => ?_)
  have c4 := Classical.not_not.1 c4
  exact ⟨bool_t ⟨c0, c1, c2, c3, c4⟩, E⟩

theorem markRepeater_ok (a0 : Int) (a1 : Int) (a2 : Int) (a3 : Int) (a4 : Value) (x4 : List Int) (k : Int) (h : Heap) (sa4 : SlO h a4 x4) (h0 : 0 ≤ k) (h1 : k ≤ 1152921504606846976) (hb : x4.length ≤ 1152921504606846) :
    Cn f_laws_markRepeater [.agg #[.int .i64 a0, .int .i64 a1, .int .i64 a2, .int .i64 a3, a4], .int .i64 k] h fun v h' => v = .int .i64 (k + (x4.length : Int)) ∧ SlO h' a4 (upto k x4.length) ∧ Mod (blks a4) h h' ∧ h.size ≤ h'.size := by
  refine calls_of r_laws_markRepeater ?_
  refine AllocVC.mk [.int .i64 a0, .int .i64 a1, .int .i64 a2, .int .i64 a3, a4] rfl (fun h2 b hbb hz e bx => ?_)
  refine bx.load rfl ?_
  refine (markIntS_ok _ _ _ _ (sa4.ext e) h0 h1 (by omega)).mono ?_
  rintro _ h3 ⟨rfl, s3, m3, z3⟩
  exact ⟨rfl, s3, (Mod.of_ext e _).trans m3, by omega⟩

theorem heldRepeater_ok (a0 : Int) (a1 : Int) (a2 : Int) (a3 : Int) (a4 : Value) (n : Nat) (k : Int) (h : Heap) (sa4 : Sl h a4 (upto k n)) (h0 : 0 ≤ k) (h1 : k ≤ 1152921504606846976) (hb : n ≤ 1152921504606846) :
    Cn f_laws_heldRepeater [.agg #[.int .i64 a0, .int .i64 a1, .int .i64 a2, .int .i64 a3, a4], .int .i64 k] h fun v h' => v = .int .i64 (k + (n : Int)) ∧ Ext h h' := by
  refine calls_of r_laws_heldRepeater ?_
  refine AllocVC.mk [.int .i64 a0, .int .i64 a1, .int .i64 a2, .int .i64 a3, a4] rfl (fun h2 b hbb hz e bx => ?_)
  refine bx.load rfl ?_
  refine (heldIntS_ok _ _ _ _ (sa4.ext e) h0 h1 (by omega)).mono ?_
  rintro _ h2 ⟨rfl, rfl⟩
  refine CondVC.no (by omega) ?_
  exact ⟨rfl, e⟩
end Go.Proofs.Ytgfokmjnfaopaaa
