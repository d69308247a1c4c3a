/- Tests whether all numbers of a slice lie within bounds. Condition: none. -/
import Derived.Test.YtbikhpphdhffaaaDoorCom1
namespace Go.Proofs.YtbikhpphdhffaaaDoor
open Go.Vc

theorem allWithin_ok (v : Value) (xs : List Int) (lo hi : Int) (h : Heap) (hs : Sl h v xs) : Cn f_impl_allWithin [v, .int .i64 lo, .int .i64 hi] h fun r h' => r = .bool (decide (AllIn lo hi xs)) ∧ h' = h := by
  refine calls_of r_impl_allWithin ?_
  refine hs.lenVC ?_
  refine LoopVC.mk (α := Nat) (fun k => [(1, .int .i64 lo), (2, .int .i64 hi), (9, v), (10, .int .i64 (xs.length : Int)), (11, .int .i64 (k : Int))]) (fun k h2 => h2 = h ∧ k ≤ xs.length ∧ AllIn lo hi (xs.take k)) (fun k => xs.length - k) 0 ⟨rfl, rfl, rfl, rfl, rfl⟩ ⟨rfl, by omega, by simp [AllIn]⟩ ?_
  rintro k R h2 ⟨rfl, hk, hall⟩
  have hl := hs.len63
  refine CondVC.mk (fun hlt => ?_) (fun hlt => ?_)
  · have hk' : k < xs.length := by omega
    refine hs.idx rfl hk' (hs.load1 (x := xs[k]) (by simp [hk']) rfl ?_)
    refine (within_ok _ _ _ _).mono ?_
    rintro _ _ ⟨rfl, rfl⟩
    refine CondVC.mk (fun hc => ?_) (fun hc => ?_)
    · exact ⟨bool_f (fun ha => hc (ha _ (List.getElem_mem hk'))), rfl⟩
    · refine ArithVC.mk (by omega) ?_
      exact ⟨k + 1, ⟨⟨rfl, rfl, rfl, rfl, rfl⟩, rfl, by omega, allIn_step hk' hall (by omega)⟩, by omega⟩
  · have hk' : k = xs.length := by omega
    subst hk'
    rw [List.take_length] at hall
    exact ⟨bool_t hall, rfl⟩
theorem l1All_ok (v : Value) (xs : List Int) (lo hi : Int) (h : Heap) (hs : Sl h v xs) : Cn f_spec_l1All [v, .int .i64 lo, .int .i64 hi] h fun r h' => r = .bool (decide (AllIn lo hi xs)) ∧ h' = h := by
  refine calls_of r_spec_l1All ?_
  refine hs.lenVC ?_
  refine LoopVC.mk (α := Nat) (fun k => [(1, .int .i64 lo), (2, .int .i64 hi), (9, v), (10, .int .i64 (xs.length : Int)), (11, .int .i64 (k : Int))]) (fun k h2 => h2 = h ∧ k ≤ xs.length ∧ AllIn lo hi (xs.take k)) (fun k => xs.length - k) 0 ⟨rfl, rfl, rfl, rfl, rfl⟩ ⟨rfl, by omega, by simp [AllIn]⟩ ?_
  rintro k R h2 ⟨rfl, hk, hall⟩
  have hl := hs.len63
  refine CondVC.mk (fun hlt => ?_) (fun hlt => ?_)
  · have hk' : k < xs.length := by omega
    refine hs.idx rfl hk' (hs.load1 (x := xs[k]) (by simp [hk']) rfl ?_)
    refine (l1In_ok _ _ _ _).mono ?_
    rintro _ _ ⟨rfl, rfl⟩
    refine CondVC.mk (fun hc => ?_) (fun hc => ?_)
    · exact ⟨bool_f (fun ha => hc (ha _ (List.getElem_mem hk'))), rfl⟩
    · refine ArithVC.mk (by omega) ?_
      exact ⟨k + 1, ⟨⟨rfl, rfl, rfl, rfl, rfl⟩, rfl, by omega, allIn_step hk' hall (by omega)⟩, by omega⟩
  · have hk' : k = xs.length := by omega
    subst hk'
    rw [List.take_length] at hall
    exact ⟨bool_t hall, rfl⟩

end Go.Proofs.YtbikhpphdhffaaaDoor

