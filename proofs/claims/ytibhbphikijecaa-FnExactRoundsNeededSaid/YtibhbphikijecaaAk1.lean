/- Tests of scripts of acknowledgements. Condition: none. -/
import Derived.Test.YtibhbphikijecaaCom2
import Derived.Test.YtibhbphikijecaaTypes
namespace Go.Proofs.Ytibhbphikijecaa
open Go.Vc

abbrev AckOk (xs : List Int) : Prop := xs.length ≤ 30 ∧ AllIn 0 1023 xs
theorem implIsAckScript_ok (v : Value) (xs : List Int) (h : Heap) (hs : Sl h v xs) : Cn f_impl_IsAckScript [v] h fun r h' => r = .bool (decide (AckOk xs)) ∧ Ext h h' := by
  refine calls_of r_impl_IsAckScript ?_
  refine hs.lenVC ?_
  refine SplitVC.mk (fun c => ?_) (fun c => ?_)
  · refine (allWithin_ok _ _ _ _ _ hs).mono ?_
    rintro _ _ ⟨rfl, rfl⟩
    exact ⟨bool_is ⟨fun ha => ⟨by omega, ha⟩, fun ha => ha.2⟩, Ext.refl _⟩
  · exact ⟨bool_f (fun ha => c (by omega)), Ext.refl _⟩
theorem akScript_ok (v : Value) (xs : List Int) (h : Heap) (hs : Sl h v xs) : Cn f_spec_akScript [v] h fun r h' => r = .bool (decide (AckOk xs)) ∧ h' = h := by
  refine calls_of r_spec_akScript ?_
  refine hs.lenVC ?_
  refine SplitVC.mk (fun c => ?_) (fun c => ?_)
  · refine (l1All_ok _ _ _ _ _ hs).mono ?_
    rintro _ _ ⟨rfl, rfl⟩
    exact ⟨bool_is ⟨fun ha => ⟨by omega, ha⟩, fun ha => ha.2⟩, rfl⟩
  · exact ⟨bool_f (fun ha => c (by omega)), rfl⟩
theorem specIsAckScript_ok (v : Value) (xs : List Int) (h : Heap) (hs : Sl h v xs) : Cn f_spec_IsAckScript [v] h fun r h' => r = .bool (decide (AckOk xs)) ∧ Ext h h' := by
  refine calls_of r_spec_IsAckScript ?_
  refine (akScript_ok _ _ _ hs).mono ?_
  rintro _ _ ⟨rfl, rfl⟩
  exact ⟨rfl, Ext.refl _⟩
end Go.Proofs.Ytibhbphikijecaa
