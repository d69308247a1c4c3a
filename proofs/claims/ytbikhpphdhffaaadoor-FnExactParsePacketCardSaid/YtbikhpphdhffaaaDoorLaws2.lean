/- The laws' helpers on slices of ints: markIntS writes k, k + 1, .., heldIntS looks whether they are there. Condition: none. -/
import Derived.Test.YtbikhpphdhffaaaDoorLaws1
namespace Go.Proofs.YtbikhpphdhffaaaDoor
open Go.Vc

/-- k, k + 1, .. : n of them -/
def upto (k : Int) : Nat → List Int
  | 0 => []
  | n + 1 => k :: upto (k + 1) n
theorem upto_length (k : Int) (n : Nat) : (upto k n).length = n := by
  induction n generalizing k with
  | zero => rfl
  | succ n ih => simp [upto, ih]
theorem upto_get (k : Int) (n i : Nat) (h : i < n) : (upto k n)[i]? = some (k + i) := by
  induction n generalizing k i with
  | zero => omega
  | succ n ih =>
    cases i with
    | zero => simp [upto]
    | succ i =>
      simp only [upto, List.getElem?_cons_succ]
      rw [ih (k + 1) i (by omega)]
      congr 1
      omega
theorem upto_succ (k : Int) (n : Nat) : upto k (n + 1) = upto k n ++ [k + n] := by
  induction n generalizing k with
  | zero => simp [upto]
  | succ n ih =>
    rw [upto, ih (k + 1), upto]
    simp
    omega

theorem markIntS_ok (v : Value) (xs : List Int) (k : Int) (h : Heap) (hs : SlO h v xs) (h0 : 0 ≤ k) (h1 : k ≤ 1152921504606846976) (hb : xs.length ≤ 1152921504606846976) :
    Cn f_laws_markIntS [v, .int .i64 k] h fun r h' => r = .int .i64 (k + xs.length) ∧ SlO h' v (upto k xs.length) ∧ Mod (blks v) h h' ∧ h'.size = h.size := by
  refine calls_of r_laws_markIntS ?_
  refine LoopVC.mk (α := Nat) (fun j => [(0, v), (1, .int .i64 (k + j)), (5, .int .i64 (j : Int))]) (fun j h2 => j ≤ xs.length ∧ Mod (blks v) h h2 ∧ h2.size = h.size ∧ SlO h2 v (upto k j ++ xs.drop j)) (fun j => xs.length - j) 0 ⟨rfl, (by show Value.int .i64 k = Value.int .i64 (k + ((0 : Nat) : Int)); simp), rfl⟩ ⟨by omega, Mod.refl _ h, rfl, by simpa [upto] using hs⟩ ?_
  rintro j R h2 ⟨hj, hm2, hsz2, ho2⟩
  have hl2 : (upto k j ++ xs.drop j).length = xs.length := by simp [upto_length]; omega
  refine ho2.lenVC ?_
  rw [hl2]
  refine CondVC.mk (fun hlt => ?_) (fun hlt => ?_)
  · have hj' : j < xs.length := by omega
    refine ho2.idx rfl (by omega) ?_
    refine ho2.store1 (x' := k + j) (by omega) rfl rfl (fun h3 hm hsz3 ho3 => ?_)
    refine ArithVC.mk (by omega) ?_
    refine ArithVC.mk (by omega) ?_
    refine ⟨j + 1, ⟨⟨rfl, ?_, rfl⟩, by omega, hm2.trans hm, by omega, ?_⟩, by omega⟩
    · show Value.int .i64 (k + j + 1) = Value.int .i64 (k + (j + 1 : Nat))
      congr 1; omega
    · have e : (upto k j ++ xs.drop j).set j (k + j) = upto k (j + 1) ++ xs.drop (j + 1) := by
        rw [List.set_append_right _ _ (by rw [upto_length]; omega), upto_length, Nat.sub_self, List.drop_eq_getElem_cons hj', List.set_cons_zero, upto_succ, List.append_assoc]
        rfl
      rw [← e]; exact ho3
  · have hj' : j = xs.length := by omega
    subst hj'
    simp only [List.drop_length, List.append_nil] at ho2
    exact ⟨rfl, ho2, hm2, hsz2⟩

theorem heldIntS_ok (v : Value) (n : Nat) (k : Int) (h : Heap) (hs : Sl h v (upto k n)) (h0 : 0 ≤ k) (h1 : k ≤ 1152921504606846976) (hb : n ≤ 1152921504606846976) :
    Cn f_laws_heldIntS [v, .int .i64 k] h fun r h' => r = .int .i64 (k + n) ∧ h' = h := by
  refine calls_of r_laws_heldIntS ?_
  refine LoopVC.mk (α := Nat) (fun j => [(0, v), (1, .int .i64 (k + j)), (5, .int .i64 (j : Int))]) (fun j h2 => h2 = h ∧ j ≤ n) (fun j => n - j) 0 ⟨rfl, (by show Value.int .i64 k = Value.int .i64 (k + ((0 : Nat) : Int)); simp), rfl⟩ ⟨rfl, by omega⟩ ?_
  rintro j R h2 ⟨rfl, hj⟩
  refine hs.lenVC ?_
  rw [upto_length]
  refine CondVC.mk (fun hlt => ?_) (fun hlt => ?_)
  · have hj' : j < n := by omega
    refine hs.idx rfl (by rw [upto_length]; omega) ?_
    refine hs.load1 (x := k + j) (upto_get k n j hj') rfl ?_
    refine CondVC.no (by simp) ?_
    refine ArithVC.mk (by omega) ?_
    refine ArithVC.mk (by omega) ?_
    refine ⟨j + 1, ⟨⟨rfl, ?_, rfl⟩, rfl, by omega⟩, by omega⟩
    show Value.int .i64 (k + j + 1) = Value.int .i64 (k + (j + 1 : Nat))
    congr 1; omega
  · have hj' : j = n := by omega
    subst hj'
    exact ⟨rfl, rfl⟩
end Go.Proofs.YtbikhpphdhffaaaDoor

