/- WithPattern: what it returns. Condition: none. -/
import Derived.Test.YtckkablifoblbaaLn2
namespace Go.Proofs.Ytckkablifoblbaa
open Go.Vc
set_option linter.all false

/-- the results of WithPattern -/
def patOut (xs : List Int) (i p : Int) : List Int × Bool :=
  if ScriptOk xs ∧ (0 ≤ i ∧ i ≤ 199) ∧ 0 ≤ p ∧ p ≤ 63 then ((xs ++ List.replicate (i.toNat + 1 - xs.length) 0).set i.toNat p, true) else ([], false)

/-- a result of a slice of ints and a bool -/
def SlB (h h' : Heap) (v : Value) (o : List Int × Bool) : Prop := ∃ r, v = .tuple #[r, .bool o.2] ∧ SlO h' r o.1 ∧ Ext h h' ∧ Fr h.size r

theorem rep_succ {α : Type} (k : Nat) (z : α) : List.replicate (k + 1) z = List.replicate k z ++ [z] := List.replicate_succ'
theorem SlB.mk {h h' : Heap} {r : Value} {o : List Int × Bool} {ys : List Int} {b : Bool} (ho : o = (ys, b)) (hs : SlO h' r ys) (e : Ext h h') (f : Fr h.size r) : SlB h h' (.tuple #[r, .bool b]) o := by
  subst ho; exact ⟨r, rfl, hs, e, f⟩

theorem l1Own_ok (v : Value) (xs : List Int) (h : Heap) (hs : Sl h v xs) (hb : xs.length ≤ 1048576) : Cn f_spec_l1Own [v] h fun r h' => SlO h' r xs ∧ Ext h h' ∧ Fr h.size r := by
  refine calls_of r_spec_l1Own ?_
  refine SlX.row ([] : List Int) rfl rfl (by simp) (fun o h1 he hsz ho hfr => ?_)
  refine ho.append (hs.ext he) rfl (by simp [hs.len_le]) (by simp; omega) (fun o2 h2 hm ho2 hbk => ?_)
  have ho2 : SlO h2 o2 xs := by simpa using ho2
  exact ⟨ho2, he.mod hm hfr, hfr.app hbk (by omega)⟩

theorem implWithPattern_ok (v : Value) (xs : List Int) (i p : Int) (h : Heap) (hs : Sl h v xs) :
    Cn f_impl_WithPattern [v, .int .i64 i, .int .i64 p] h fun r h' => SlB h h' r (patOut xs i p) := by
  refine calls_of r_impl_WithPattern ?_
  have bad : ¬ (ScriptOk xs ∧ (0 ≤ i ∧ i ≤ 199) ∧ 0 ≤ p ∧ p ≤ 63) → SlB h h (.tuple #[.slice none 0 0, .bool false]) (patOut xs i p) := by
    intro hn
    rw [patOut, if_neg hn]
    exact ⟨_, rfl, SlX.nil true h, Ext.refl h, Fr.nil _⟩
  refine (isScript_ok _ _ _ hs).mono ?_
  rintro _ h ⟨rfl, rfl⟩
  refine SplitVC.mk (fun c1 => ?_) (fun c1 => ?_)
  · exact SplitVC.t (CondVC.t (bad fun ha => c1 ha.1))
  refine (within_ok _ _ _ _).mono ?_
  rintro _ h ⟨rfl, rfl⟩
  refine SplitVC.mk (fun c2 => ?_) (fun c2 => ?_)
  · exact CondVC.t (bad fun ha => c2 ha.2.1)
  refine (isSignal_ok _ _).mono ?_
  rintro _ h ⟨rfl, rfl⟩
  refine CondVC.mk (fun c3 => ?_) (fun c3 => ?_)
  · exact bad fun ha => c3 ha.2.2
  have c1 := Classical.not_not.1 c1
  have c2 := Classical.not_not.1 c2
  have c3 := Classical.not_not.1 c3
  have hl := c1.1
  refine hs.lenVC ?_
  refine ArithVC.mk (by omega) ?_
  refine SlX.makeI (n := xs.length + (i.toNat + 1 - xs.length)) (0 : Int) (by split <;> omega) rfl rfl (by simp [maxLen]; omega) (by omega) (fun o h1 he hsz ho hfr => ?_)
  refine ho.copy (hs.ext he) rfl (fun h2 hm2 hsz2 ho2 => ?_)
  have e2 := he.mod hm2 hfr
  have hz : xs.take (List.replicate (xs.length + (i.toNat + 1 - xs.length)) (0 : Int)).length ++ (List.replicate (xs.length + (i.toNat + 1 - xs.length)) (0 : Int)).drop xs.length = xs ++ List.replicate (i.toNat + 1 - xs.length) 0 := by
    rw [List.length_replicate, List.take_of_length_le (by omega), List.drop_replicate, Nat.add_sub_cancel_left]
  rw [hz] at ho2
  refine ho2.idx (k := i.toNat) (by omega) (by simp; omega) ?_
  refine ho2.store1 (x' := p) (by simp; omega) rfl rfl (fun h3 hm3 hsz3 ho3 => ?_)
  have hp : patOut xs i p = ((xs ++ List.replicate (i.toNat + 1 - xs.length) 0).set i.toNat p, true) := by rw [patOut, if_pos ⟨c1, c2, c3⟩]
  exact SlB.mk hp ho3 (e2.mod hm3 hfr) hfr

theorem specWithPattern_ok (v : Value) (xs : List Int) (i p : Int) (h : Heap) (hs : Sl h v xs) :
    Cn f_spec_WithPattern [v, .int .i64 i, .int .i64 p] h fun r h' => SlB h h' r (patOut xs i p) := by
  refine calls_of r_spec_WithPattern ?_
  have bad : ¬ (ScriptOk xs ∧ (0 ≤ i ∧ i ≤ 199) ∧ 0 ≤ p ∧ p ≤ 63) → SlB h h (.tuple #[.slice none 0 0, .bool false]) (patOut xs i p) := by
    intro hn
    rw [patOut, if_neg hn]
    exact ⟨_, rfl, SlX.nil true h, Ext.refl h, Fr.nil _⟩
  refine (liScript_ok _ _ _ hs).mono ?_
  rintro _ h ⟨rfl, rfl⟩
  refine SplitVC.mk (fun c1 => ?_) (fun c1 => ?_)
  · exact SplitVC.t (CondVC.t (bad fun ha => c1 ha.1))
  refine (l1In_ok _ _ _ _).mono ?_
  rintro _ h ⟨rfl, rfl⟩
  refine SplitVC.mk (fun c2 => ?_) (fun c2 => ?_)
  · exact CondVC.t (bad fun ha => c2 ha.2.1)
  refine (sgGood_ok _ _).mono ?_
  rintro _ h ⟨rfl, rfl⟩
  refine CondVC.mk (fun c3 => ?_) (fun c3 => ?_)
  · exact bad fun ha => c3 ha.2.2
  have c1 := Classical.not_not.1 c1
  have c2 := Classical.not_not.1 c2
  have c3 := Classical.not_not.1 c3
  have hl := c1.1
  refine (l1Own_ok _ _ _ hs (by omega)).mono ?_
  rintro o h1 ⟨ho, he, hfr⟩
  refine LoopVC.mk (α := Nat × Value) (fun g => [(1, .int .i64 i), (2, .int .i64 p), (8, g.2)]) (fun g h2 => SlO h2 g.2 (xs ++ List.replicate g.1 0) ∧ Ext h h2 ∧ Fr h.size g.2 ∧ g.1 ≤ i.toNat + 1 - xs.length)
    (fun g => i.toNat + 1 - xs.length - g.1) (0, o) ⟨rfl, rfl, rfl⟩ ⟨by simpa using ho, he, hfr, by omega⟩ ?_
  rintro ⟨k, o2⟩ R h2 ⟨ho2, he2, hfr2, hk⟩
  refine ho2.lenVC ?_
  simp only [List.length_append, List.length_replicate]
  refine CondVC.mk (fun hlt => ?_) (fun hlt => ?_)
  · refine And.intro rfl ?_
    refine SlX.row [(0 : Int)] rfl rfl (by simp [maxLen]) (fun o3 h3 he3 hsz3 ho3 hfr3 => ?_)
    refine (ho2.ext he3).append ho3 rfl (by simp [maxLen]; omega) (by simp; omega) (fun o4 h4 hm4 ho4 hbk => ?_)
    refine ⟨(k + 1, o4), ⟨⟨rfl, rfl, rfl⟩, ?_, (he2.trans he3).mod hm4 hfr2, hfr2.app hbk ?_, by omega⟩, by simp; omega⟩
    · rw [List.append_assoc, ← rep_succ] at ho4; exact ho4
    · have := (he2.trans he3).size; omega
  · have hk2 : k = i.toNat + 1 - xs.length := by omega
    subst hk2
    refine ho2.idx (k := i.toNat) (by omega) (by simp; omega) ?_
    refine ho2.store1 (x' := p) (by simp; omega) rfl rfl (fun h3 hm3 hsz3 ho3 => ?_)
    have hp : patOut xs i p = ((xs ++ List.replicate (i.toNat + 1 - xs.length) 0).set i.toNat p, true) := by rw [patOut, if_pos ⟨c1, c2, c3⟩]
    exact SlB.mk hp ho3 (he2.mod hm3 hfr2) hfr2
theorem patOut_len (xs : List Int) (i p : Int) : (patOut xs i p).1.length ≤ 1048576 := by
  unfold patOut
  split
  · rename_i c
    have := c.1.1
    have := c.2.1
    simp only [List.length_set, List.length_append, List.length_replicate]; omega
  · simp
end Go.Proofs.Ytckkablifoblbaa
