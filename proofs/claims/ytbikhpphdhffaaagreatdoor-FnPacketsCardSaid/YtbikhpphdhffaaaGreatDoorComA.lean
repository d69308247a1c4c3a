/- Several small texts in one: Laws1, SzI, Com1, Com2, Laws2, Find, Pa0, Pa1. Condition: none. -/
import Derived.Test.YtbikhpphdhffaaaGreatDoorCode
import Derived.Test.YtbikhpphdhffaaaGreatDoorLib1
import Derived.Test.YtbikhpphdhffaaaGreatDoorRes
import Derived.Test.YtbikhpphdhffaaaGreatDoorStep2
namespace Go.Proofs.YtbikhpphdhffaaaGreatDoor
open Go.Vc

abbrev Cn (f : Nat) (args : List Value) (h : Heap) (R : Value → Heap → Prop) : Prop := CallsH Tryz.prog f args h R

end Go.Proofs.YtbikhpphdhffaaaGreatDoor
namespace Go.Proofs.YtbikhpphdhffaaaGreatDoor
open Go.Vc
end Go.Proofs.YtbikhpphdhffaaaGreatDoor
namespace Go.Proofs.YtbikhpphdhffaaaGreatDoor
open Go.Vc

theorem within_ok (n lo hi : Int) (h : Heap) : Cn f_impl_within [.int .i64 n, .int .i64 lo, .int .i64 hi] h fun v h' => v = .bool (decide (lo ≤ n ∧ n ≤ hi)) ∧ h' = h := by
  refine calls_of r_impl_within ?_
  refine SplitVC.mk (fun h1 => ?_) (fun h1 => ?_)
  · exact ⟨bool_is (by omega), rfl⟩
  · exact ⟨bool_f (by omega), rfl⟩
theorem l1In_ok (n lo hi : Int) (h : Heap) : Cn f_spec_l1In [.int .i64 n, .int .i64 lo, .int .i64 hi] h fun v h' => v = .bool (decide (lo ≤ n ∧ n ≤ hi)) ∧ h' = h := by
  refine calls_of r_spec_l1In ?_
  refine SplitVC.mk (fun h1 => ?_) (fun h1 => ?_)
  · exact ⟨bool_is (by omega), rfl⟩
  · exact ⟨bool_f (by omega), rfl⟩

abbrev AllIn (lo hi : Int) (xs : List Int) : Prop := ∀ x ∈ xs, lo ≤ x ∧ x ≤ hi

theorem allIn_step {lo hi : Int} {xs : List Int} {k : Nat} (hk : k < xs.length) (h : AllIn lo hi (xs.take k)) (hx : lo ≤ xs[k] ∧ xs[k] ≤ hi) : AllIn lo hi (xs.take (k + 1)) := by
  intro x hm
  rw [List.take_succ_eq_append_getElem hk] at hm
  rcases List.mem_append.1 hm with hm | hm
  · exact h x hm
  · simp at hm; subst hm; exact hx

end Go.Proofs.YtbikhpphdhffaaaGreatDoor
namespace Go.Proofs.YtbikhpphdhffaaaGreatDoor
open Go.Vc

theorem allWithin_ok (v : Value) (xs : List Int) (lo hi : Int) (h : Heap) (hs : Sl h v xs) : Cn f_impl_allWithin [v, .int .i64 lo, .int .i64 hi] h fun r h' => r = .bool (decide (AllIn lo hi xs)) ∧ h' = h := by
  refine calls_of r_impl_allWithin ?_
  refine hs.lenVC ?_
  refine LoopVC.mk (α := Nat) (fun k => [(1, .int .i64 lo), (2, .int .i64 hi), (9, v), (10, .int .i64 (xs.length : Int)), (11, .int .i64 (k : Int))]) (fun k h2 => h2 = h ∧ k ≤ xs.length ∧ AllIn lo hi (xs.take k)) (fun k => xs.length - k) 0 ⟨rfl, rfl, rfl, rfl, rfl⟩ ⟨rfl, by omega, by simp [AllIn]⟩ ?_
  rintro k R h2 ⟨rfl, hk, hall⟩
  have hl := hs.len63
  refine CondVC.mk (fun hlt => ?_) (fun hlt => ?_)
  · have hk' : k < xs.length := by omega
    refine hs.idx rfl hk' (hs.load1 (x := xs[k]) (by simp [hk']) rfl ?_)
    refine (within_ok _ _ _ _).mono ?_
    rintro _ _ ⟨rfl, rfl⟩
    refine CondVC.mk (fun hc => ?_) (fun hc => ?_)
    · exact ⟨bool_f (fun ha => hc (ha _ (List.getElem_mem hk'))), rfl⟩
    · refine ArithVC.mk (by omega) ?_
      exact ⟨k + 1, ⟨⟨rfl, rfl, rfl, rfl, rfl⟩, rfl, by omega, allIn_step hk' hall (by omega)⟩, by omega⟩
  · have hk' : k = xs.length := by omega
    subst hk'
    rw [List.take_length] at hall
    exact ⟨bool_t hall, rfl⟩
theorem l1All_ok (v : Value) (xs : List Int) (lo hi : Int) (h : Heap) (hs : Sl h v xs) : Cn f_spec_l1All [v, .int .i64 lo, .int .i64 hi] h fun r h' => r = .bool (decide (AllIn lo hi xs)) ∧ h' = h := by
  refine calls_of r_spec_l1All ?_
  refine hs.lenVC ?_
  refine LoopVC.mk (α := Nat) (fun k => [(1, .int .i64 lo), (2, .int .i64 hi), (9, v), (10, .int .i64 (xs.length : Int)), (11, .int .i64 (k : Int))]) (fun k h2 => h2 = h ∧ k ≤ xs.length ∧ AllIn lo hi (xs.take k)) (fun k => xs.length - k) 0 ⟨rfl, rfl, rfl, rfl, rfl⟩ ⟨rfl, by omega, by simp [AllIn]⟩ ?_
  rintro k R h2 ⟨rfl, hk, hall⟩
  have hl := hs.len63
  refine CondVC.mk (fun hlt => ?_) (fun hlt => ?_)
  · have hk' : k < xs.length := by omega
    refine hs.idx rfl hk' (hs.load1 (x := xs[k]) (by simp [hk']) rfl ?_)
    refine (l1In_ok _ _ _ _).mono ?_
    rintro _ _ ⟨rfl, rfl⟩
    refine CondVC.mk (fun hc => ?_) (fun hc => ?_)
    · exact ⟨bool_f (fun ha => hc (ha _ (List.getElem_mem hk'))), rfl⟩
    · refine ArithVC.mk (by omega) ?_
      exact ⟨k + 1, ⟨⟨rfl, rfl, rfl, rfl, rfl⟩, rfl, by omega, allIn_step hk' hall (by omega)⟩, by omega⟩
  · have hk' : k = xs.length := by omega
    subst hk'
    rw [List.take_length] at hall
    exact ⟨bool_t hall, rfl⟩

end Go.Proofs.YtbikhpphdhffaaaGreatDoor
namespace Go.Proofs.YtbikhpphdhffaaaGreatDoor
open Go.Vc

/-- k, k + 1, .. : n of them -/
def upto (k : Int) : Nat → List Int
  | 0 => []
  | n + 1 => k :: upto (k + 1) n
theorem upto_length (k : Int) (n : Nat) : (upto k n).length = n := by
  induction n generalizing k with
  | zero => rfl
  | succ n ih => simp [upto, ih]
theorem upto_get (k : Int) (n i : Nat) (h : i < n) : (upto k n)[i]? = some (k + i) := by
  induction n generalizing k i with
  | zero => omega
  | succ n ih =>
    cases i with
    | zero => simp [upto]
    | succ i =>
      simp only [upto, List.getElem?_cons_succ]
      rw [ih (k + 1) i (by omega)]
      congr 1
      omega
theorem upto_succ (k : Int) (n : Nat) : upto k (n + 1) = upto k n ++ [k + n] := by
  induction n generalizing k with
  | zero => simp [upto]
  | succ n ih =>
    rw [upto, ih (k + 1), upto]
    simp
    omega

end Go.Proofs.YtbikhpphdhffaaaGreatDoor
namespace Go.Vc
/-- the index of the first element of which p holds, or -1 -/
def firstF {α : Type} (p : α → Bool) : List α → Nat → Int
  | [], _ => -1
  | x :: xs, i => bif p x then (i : Int) else firstF p xs (i + 1)
theorem firstF_nonneg {α : Type} (p : α → Bool) : ∀ (xs : List α) (i : Nat), 0 ≤ firstF p xs i ↔ xs.any p = true
  | [], i => by simp [firstF]
  | x :: xs, i => by
    simp only [firstF, List.any_cons]
    cases p x with
    | true => simp
    | false => simpa using firstF_nonneg p xs (i + 1)
theorem firstF_bound {α : Type} (p : α → Bool) : ∀ (xs : List α) (i : Nat), -1 ≤ firstF p xs i ∧ firstF p xs i < (i : Int) + xs.length ∨ firstF p xs i = -1
  | [], i => by simp [firstF]
  | x :: xs, i => by
    simp only [firstF]
    cases p x with
    | true => left; simp only [cond_true, List.length_cons]; omega
    | false =>
      have := firstF_bound p xs (i + 1)
      simp only [cond_false, List.length_cons]; omega
theorem NilVC.mk {a : Option Addr} {n c : Nat} {ng : Bool} {K : Value → Prop} (hk : K (.bool (bif ng then !a.isNone else a.isNone))) : NilVC (.slice a n c) ng K := ⟨a, n, c, rfl, hk⟩
/-- a test for nil: a nil slice has no elements -/
theorem SlX.nilVC {α : Type} [Enc α] {own : Bool} {h : Heap} {v : Value} {xs : List α} (hs : SlX own h v xs) {K : Value → Prop} (h0 : xs = [] → K (.bool true)) (h1 : K (.bool false)) : NilVC v false K := by
  obtain ⟨a, c, rfl, hs⟩ := hs
  refine ⟨a, _, c, rfl, ?_⟩
  cases a with
  | none =>
    refine h0 ?_
    rcases hs with ⟨h, _⟩ | ⟨ad, h, _⟩
    · exact h
    · cases h
  | some a => exact h1
end Go.Vc
namespace Go.Proofs.YtbikhpphdhffaaaGreatDoor
open Go.Vc
set_option linter.all false

end Go.Proofs.YtbikhpphdhffaaaGreatDoor
namespace Go.Proofs.YtbikhpphdhffaaaGreatDoor
open Go.Vc

end Go.Proofs.YtbikhpphdhffaaaGreatDoor
