/- The laws' helpers on slices of ints: toIntS copies, eqIntS compares, markIntS writes k, k+1, .., heldIntS looks whether they are there. Condition: none. -/
import Derived.Test.YtckkablifoblbaaCode
import Derived.Test.YtckkablifoblbaaLib1
namespace Go.Proofs.Ytckkablifoblbaa
open Go.Vc

abbrev Cn (f : Nat) (args : List Value) (h : Heap) (R : Value → Heap → Prop) : Prop := CallsH Try.prog f args h R

theorem toIntS_ok (v : Value) (xs : List Int) (h : Heap) (hs : Sl h v xs) (hb : xs.length ≤ 1048576) :
    Cn f_laws_toIntS [v] h fun r h' => SlO h' r xs ∧ Ext h h' ∧ Fr h.size r := by
  refine calls_of r_laws_toIntS ?_
  refine hs.lenVC ?_
  refine SlX.make xs.length (0 : Int) rfl rfl hs.len_le (by omega) (fun o h1 he hsz ho hfr => ?_)
  refine LoopVC.mk (α := Nat) (fun k => [(0, v), (3, o), (4, .int .i64 (k : Int))]) (fun k h2 => k ≤ xs.length ∧ Ext h h2 ∧ SlO h2 o (xs.take k ++ List.replicate (xs.length - k) 0)) (fun k => xs.length - k) 0 ⟨rfl, rfl, rfl⟩ ⟨by omega, he, by simpa using ho⟩ ?_
  rintro k R h2 ⟨hk, he2, ho2⟩
  have hs2 := hs.ext he2
  refine hs2.lenVC ?_
  refine CondVC.mk (fun hlt => ?_) (fun hlt => ?_)
  · have hk' : k < xs.length := by omega
    refine hs2.idx rfl hk' ?_
    refine hs2.load1 (x := xs[k]) (by simp [hk']) rfl ?_
    refine ho2.idx rfl (by simp; omega) ?_
    refine ho2.store1 (x' := xs[k]) (by simp; omega) rfl rfl (fun h3 hm hsz3 ho3 => ?_)
    refine ArithVC.mk (by omega) ?_
    exact ⟨k + 1, ⟨⟨rfl, rfl, rfl⟩, by omega, he2.mod hm hfr, by rw [← fill_step xs 0 k hk']; exact ho3⟩, by omega⟩
  · have hk' : k = xs.length := by omega
    subst hk'
    rw [fill_done] at ho2
    exact ⟨ho2, he2, hfr⟩

theorem eqIntS_ok (v u : Value) (xs ys : List Int) (h : Heap) (hx : Sl h v xs) (hy : Sl h u ys) :
    Cn f_laws_eqIntS [v, u] h fun r h' => r = .bool (decide (xs = ys)) ∧ h' = h := by
  refine calls_of r_laws_eqIntS ?_
  refine hx.lenVC (hy.lenVC ?_)
  refine CondVC.mk (fun hlen => ?_) (fun hlen => ?_)
  · exact ⟨bool_f (fun e => hlen (by rw [e])), rfl⟩
  have hl : xs.length = ys.length := by omega
  refine LoopVC.mk (α := Nat) (fun k => [(0, v), (1, u), (5, .int .i64 (k : Int))]) (fun k h2 => h2 = h ∧ k ≤ xs.length ∧ xs.take k = ys.take k) (fun k => xs.length - k) 0 ⟨rfl, rfl, rfl⟩ ⟨rfl, by omega, by simp⟩ ?_
  rintro k R h2 ⟨rfl, hk, heq⟩
  refine hx.lenVC ?_
  refine CondVC.mk (fun hlt => ?_) (fun hlt => ?_)
  · have hk' : k < xs.length := by omega
    have hk2 : k < ys.length := by omega
    refine hx.idx rfl hk' (hy.idx rfl hk2 ?_)
    refine hx.load1 (x := xs[k]) (by simp [hk']) rfl (hy.load1 (x := ys[k]) (by simp [hk2]) rfl ?_)
    refine CondVC.mk (fun hne => ?_) (fun hne => ?_)
    · refine ⟨bool_f (fun e => hne ?_), rfl⟩
      subst e; rfl
    · have he : xs[k] = ys[k] := by omega
      have hx63 := hx.len63
      refine ArithVC.mk (by omega) ?_
      refine ⟨k + 1, ⟨⟨rfl, rfl, rfl⟩, rfl, by omega, ?_⟩, by omega⟩
      rw [List.take_succ_eq_append_getElem hk', List.take_succ_eq_append_getElem hk2, heq, he]
  · have hk' : k = xs.length := by omega
    subst hk'
    rw [List.take_length, hl, List.take_length] at heq
    exact ⟨bool_t heq, rfl⟩

/-- k, k + 1, .. : n of them -/
def upto (k : Int) : Nat → List Int
  | 0 => []
  | n + 1 => k :: upto (k + 1) n
theorem upto_length (k : Int) (n : Nat) : (upto k n).length = n := by
  induction n generalizing k with
  | zero => rfl
  | succ n ih => simp [upto, ih]
theorem upto_get (k : Int) (n i : Nat) (h : i < n) : (upto k n)[i]? = some (k + i) := by
  induction n generalizing k i with
  | zero => omega
  | succ n ih =>
    cases i with
    | zero => simp [upto]
    | succ i =>
      simp only [upto, List.getElem?_cons_succ]
      rw [ih (k + 1) i (by omega)]
      congr 1
      omega
theorem upto_succ (k : Int) (n : Nat) : upto k (n + 1) = upto k n ++ [k + n] := by
  induction n generalizing k with
  | zero => simp [upto]
  | succ n ih =>
    rw [upto, ih (k + 1), upto]
    simp
    omega

theorem markIntS_ok (v : Value) (xs : List Int) (k : Int) (h : Heap) (hs : SlO h v xs) (h0 : 0 ≤ k) (h1 : k ≤ 1152921504606846976) (hb : xs.length ≤ 1152921504606846976) :
    Cn f_laws_markIntS [v, .int .i64 k] h fun r h' => r = .int .i64 (k + xs.length) ∧ SlO h' v (upto k xs.length) ∧ Mod (blks v) h h' ∧ h'.size = h.size := by
  refine calls_of r_laws_markIntS ?_
  refine LoopVC.mk (α := Nat) (fun j => [(0, v), (1, .int .i64 (k + j)), (5, .int .i64 (j : Int))]) (fun j h2 => j ≤ xs.length ∧ Mod (blks v) h h2 ∧ h2.size = h.size ∧ SlO h2 v (upto k j ++ xs.drop j)) (fun j => xs.length - j) 0 ⟨rfl, (by show Value.int .i64 k = Value.int .i64 (k + ((0 : Nat) : Int)); simp), rfl⟩ ⟨by omega, Mod.refl _ h, rfl, by simpa [upto] using hs⟩ ?_
  rintro j R h2 ⟨hj, hm2, hsz2, ho2⟩
  have hl2 : (upto k j ++ xs.drop j).length = xs.length := by simp [upto_length]; omega
  refine ho2.lenVC ?_
  rw [hl2]
  refine CondVC.mk (fun hlt => ?_) (fun hlt => ?_)
  · have hj' : j < xs.length := by omega
    refine ho2.idx rfl (by omega) ?_
    refine ho2.store1 (x' := k + j) (by omega) rfl rfl (fun h3 hm hsz3 ho3 => ?_)
    refine ArithVC.mk (by omega) ?_
    refine ArithVC.mk (by omega) ?_
    refine ⟨j + 1, ⟨⟨rfl, ?_, rfl⟩, by omega, hm2.trans hm, by omega, ?_⟩, by omega⟩
    · show Value.int .i64 (k + j + 1) = Value.int .i64 (k + (j + 1 : Nat))
      congr 1; omega
    · have e : (upto k j ++ xs.drop j).set j (k + j) = upto k (j + 1) ++ xs.drop (j + 1) := by
        rw [List.set_append_right _ _ (by rw [upto_length]; omega), upto_length, Nat.sub_self, List.drop_eq_getElem_cons hj', List.set_cons_zero, upto_succ, List.append_assoc]
        rfl
      rw [← e]; exact ho3
  · have hj' : j = xs.length := by omega
    subst hj'
    simp only [List.drop_length, List.append_nil] at ho2
    exact ⟨rfl, ho2, hm2, hsz2⟩

theorem heldIntS_ok (v : Value) (n : Nat) (k : Int) (h : Heap) (hs : Sl h v (upto k n)) (h0 : 0 ≤ k) (h1 : k ≤ 1152921504606846976) (hb : n ≤ 1152921504606846976) :
    Cn f_laws_heldIntS [v, .int .i64 k] h fun r h' => r = .int .i64 (k + n) ∧ h' = h := by
  refine calls_of r_laws_heldIntS ?_
  refine LoopVC.mk (α := Nat) (fun j => [(0, v), (1, .int .i64 (k + j)), (5, .int .i64 (j : Int))]) (fun j h2 => h2 = h ∧ j ≤ n) (fun j => n - j) 0 ⟨rfl, (by show Value.int .i64 k = Value.int .i64 (k + ((0 : Nat) : Int)); simp), rfl⟩ ⟨rfl, by omega⟩ ?_
  rintro j R h2 ⟨rfl, hj⟩
  refine hs.lenVC ?_
  rw [upto_length]
  refine CondVC.mk (fun hlt => ?_) (fun hlt => ?_)
  · have hj' : j < n := by omega
    refine hs.idx rfl (by rw [upto_length]; omega) ?_
    refine hs.load1 (x := k + j) (upto_get k n j hj') rfl ?_
    refine CondVC.no (by simp) ?_
    refine ArithVC.mk (by omega) ?_
    refine ArithVC.mk (by omega) ?_
    refine ⟨j + 1, ⟨⟨rfl, ?_, rfl⟩, rfl, by omega⟩, by omega⟩
    show Value.int .i64 (k + j + 1) = Value.int .i64 (k + (j + 1 : Nat))
    congr 1; omega
  · have hj' : j = n := by omega
    subst hj'
    exact ⟨rfl, rfl⟩
end Go.Proofs.Ytckkablifoblbaa
