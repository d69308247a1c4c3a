/- The laws' helpers on slices of ints: toIntS copies, eqIntS compares. Condition: none. -/
import Derived.Test.YtbikhpphdhffaabDoorCode
import Derived.Test.YtbikhpphdhffaabDoorLib1
namespace Go.Proofs.YtbikhpphdhffaabDoor
open Go.Vc

abbrev Cn (f : Nat) (args : List Value) (h : Heap) (R : Value → Heap → Prop) : Prop := CallsH Tryd.prog f args h R

theorem toIntS_ok (v : Value) (xs : List Int) (h : Heap) (hs : Sl h v xs) (hb : xs.length ≤ 1048576) :
    Cn f_laws_toIntS [v] h fun r h' => SlO h' r xs ∧ Ext h h' ∧ Fr h.size r := by
  refine calls_of r_laws_toIntS ?_
  refine hs.lenVC ?_
  refine SlX.make xs.length (0 : Int) rfl rfl hs.len_le (by omega) (fun o h1 he hsz ho hfr => ?_)
  refine LoopVC.mk (α := Nat) (fun k => [(0, v), (3, o), (4, .int .i64 (k : Int))]) (fun k h2 => k ≤ xs.length ∧ Ext h h2 ∧ SlO h2 o (xs.take k ++ List.replicate (xs.length - k) 0)) (fun k => xs.length - k) 0 ⟨rfl, rfl, rfl⟩ ⟨by omega, he, by simpa using ho⟩ ?_
  rintro k R h2 ⟨hk, he2, ho2⟩
  have hs2 := hs.ext he2
  refine hs2.lenVC ?_
  refine CondVC.mk (fun hlt => ?_) (fun hlt => ?_)
  · have hk' : k < xs.length := by omega
    refine hs2.idx rfl hk' ?_
    refine hs2.load1 (x := xs[k]) (by simp [hk']) rfl ?_
    refine ho2.idx rfl (by simp; omega) ?_
    refine ho2.store1 (x' := xs[k]) (by simp; omega) rfl rfl (fun h3 hm hsz3 ho3 => ?_)
    refine ArithVC.mk (by omega) ?_
    exact ⟨k + 1, ⟨⟨rfl, rfl, rfl⟩, by omega, he2.mod hm hfr, by rw [← fill_step xs 0 k hk']; exact ho3⟩, by omega⟩
  · have hk' : k = xs.length := by omega
    subst hk'
    rw [fill_done] at ho2
    exact ⟨ho2, he2, hfr⟩

theorem eqIntS_ok (v u : Value) (xs ys : List Int) (h : Heap) (hx : Sl h v xs) (hy : Sl h u ys) :
    Cn f_laws_eqIntS [v, u] h fun r h' => r = .bool (decide (xs = ys)) ∧ h' = h := by
  refine calls_of r_laws_eqIntS ?_
  refine hx.lenVC (hy.lenVC ?_)
  refine CondVC.mk (fun hlen => ?_) (fun hlen => ?_)
  · exact ⟨bool_f (fun e => hlen (by rw [e])), rfl⟩
  have hl : xs.length = ys.length := by omega
  refine LoopVC.mk (α := Nat) (fun k => [(0, v), (1, u), (5, .int .i64 (k : Int))]) (fun k h2 => h2 = h ∧ k ≤ xs.length ∧ xs.take k = ys.take k) (fun k => xs.length - k) 0 ⟨rfl, rfl, rfl⟩ ⟨rfl, by omega, by simp⟩ ?_
  rintro k R h2 ⟨rfl, hk, heq⟩
  refine hx.lenVC ?_
  refine CondVC.mk (fun hlt => ?_) (fun hlt => ?_)
  · have hk' : k < xs.length := by omega
    have hk2 : k < ys.length := by omega
    refine hx.idx rfl hk' (hy.idx rfl hk2 ?_)
    refine hx.load1 (x := xs[k]) (by simp [hk']) rfl (hy.load1 (x := ys[k]) (by simp [hk2]) rfl ?_)
    refine CondVC.mk (fun hne => ?_) (fun hne => ?_)
    · refine ⟨bool_f (fun e => hne ?_), rfl⟩
      subst e; rfl
    · have he : xs[k] = ys[k] := by omega
      have hx63 := hx.len63
      refine ArithVC.mk (by omega) ?_
      refine ⟨k + 1, ⟨⟨rfl, rfl, rfl⟩, rfl, by omega, ?_⟩, by omega⟩
      rw [List.take_succ_eq_append_getElem hk', List.take_succ_eq_append_getElem hk2, heq, he]
  · have hk' : k = xs.length := by omega
    subst hk'
    rw [List.take_length, hl, List.take_length] at heq
    exact ⟨bool_t heq, rfl⟩

end Go.Proofs.YtbikhpphdhffaabDoor

