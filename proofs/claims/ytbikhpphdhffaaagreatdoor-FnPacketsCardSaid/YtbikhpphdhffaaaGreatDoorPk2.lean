/- The laws' helpers on rows of packets. Condition: none. Printed in part by a program. -/
import Derived.Test.YtbikhpphdhffaaaGreatDoorPk1
import Derived.Test.YtbikhpphdhffaaaGreatDoorDeep2
namespace Go.Proofs.YtbikhpphdhffaaaGreatDoor
open Go.Vc
set_option linter.all false

structure Pk where
  message : Int
  part : Int
  parts : Int
  sv : SV
  sig : List Int
instance : Enc Pk := ⟨4, fun p => [.int .i64 p.message, .int .i64 p.part, .int .i64 p.parts, .slice p.sv.a p.sv.n p.sv.c], fun _ => rfl, by decide, fun a u h => by simp at h; rcases h with rfl | rfl | rfl | rfl <;> rfl⟩
instance : Inn Pk Int := ⟨Pk.sv, Pk.sig⟩
abbrev Pk.p (p : Pk) : PkP := ⟨p.message, p.part, p.parts, p.sig⟩
def sigs (ps : List Pk) : Nat := (ps.map fun p => p.sig.length).sum
theorem sigs_snoc (ps : List Pk) (p : Pk) : sigs (ps ++ [p]) = sigs ps + p.sig.length := by simp [sigs]
theorem sigs_take (ps : List Pk) (k : Nat) : sigs (ps.take k) ≤ sigs ps := by
  have h : sigs ps = sigs (ps.take k) + sigs (ps.drop k) := by
    unfold sigs; rw [← List.sum_append, ← List.map_append, List.take_append_drop]
  omega
theorem sig_le {ps : List Pk} {k : Nat} {p : Pk} (h : ps[k]? = some p) : p.sig.length + sigs (ps.take k) ≤ sigs ps := by
  have := sigs_take ps (k + 1)
  rw [snoc_get h, sigs_snoc] at this; omega
theorem pkp_eq {a b : Pk} : a.p = b.p ↔ a.message = b.message ∧ a.part = b.part ∧ a.parts = b.parts ∧ a.sig = b.sig := by simp [Pk.p]
theorem map_take {α β : Type} (f : α → β) (l : List α) (k : Nat) : (l.take k).map f = (l.map f).take k := List.map_take
theorem map_get {α β : Type} {f : α → β} {l : List α} {k : Nat} {x : α} (h : l[k]? = some x) : (l.map f)[k]? = some (f x) := by simp [h]
theorem take_ext {α : Type} {xs ys : List α} {k : Nat} {x y : α} (h : xs.take k = ys.take k) (hx : xs[k]? = some x) (hy : ys[k]? = some y) (e : x = y) : xs.take (k + 1) = ys.take (k + 1) := by
  rw [snoc_get hx, snoc_get hy, h, e]
theorem get_ne {α : Type} {xs ys : List α} {k : Nat} {x y : α} (hx : xs[k]? = some x) (hy : ys[k]? = some y) (e : ¬ x = y) : ¬ xs = ys := by
  intro h; subst h; rw [hx] at hy; exact e (Option.some.inj hy)
/-- what marking leaves behind -/
def mkP : Int → List Pk → List Pk
  | _, [] => []
  | k, p :: ps => ⟨k, k + 1, k + 1 + 1, p.sv, upto (k + 1 + 1 + 1) p.sig.length⟩ :: mkP (k + 1 + 1 + 1 + p.sig.length) ps
def szP (ps : List Pk) : Nat := 3 * ps.length + sigs ps
theorem mkP_len (k : Int) (ps : List Pk) : (mkP k ps).length = ps.length := by
  induction ps generalizing k with
  | nil => rfl
  | cons p ps ih => simp [mkP, ih]
theorem mkP_get (k : Int) (ps : List Pk) (i : Nat) (p : Pk) (h : ps[i]? = some p) : (mkP k ps)[i]? = some ⟨k + szP (ps.take i), k + szP (ps.take i) + 1, k + szP (ps.take i) + 1 + 1, p.sv, upto (k + szP (ps.take i) + 1 + 1 + 1) p.sig.length⟩ := by
  induction ps generalizing k i with
  | nil => simp at h
  | cons q ps ih =>
    cases i with
    | zero => simp at h; subst h; simp [mkP, szP, sigs]
    | succ i =>
      simp only [mkP, List.getElem?_cons_succ, List.take_succ_cons]
      rw [ih _ i (by simpa using h)]
      have : k + 1 + 1 + 1 + (q.sig.length : Int) + (szP (ps.take i) : Int) = k + (szP (q :: ps.take i) : Int) := by simp [szP, sigs]; omega
      rw [this]
theorem mkP_step (k : Int) (ps : List Pk) (i : Nat) (p : Pk) (h : ps[i]? = some p) : (mkP k (ps.take i) ++ ps.drop i).set i ⟨k + szP (ps.take i), k + szP (ps.take i) + 1, k + szP (ps.take i) + 1 + 1, p.sv, upto (k + szP (ps.take i) + 1 + 1 + 1) p.sig.length⟩ = mkP k (ps.take (i + 1)) ++ ps.drop (i + 1) := by
  have hi : i < ps.length := (List.getElem?_eq_some_iff.1 h).1
  have hl : (mkP k (ps.take i)).length = i := by rw [mkP_len]; simp; omega
  rw [List.set_append_right _ _ (by omega), hl, Nat.sub_self, List.drop_eq_getElem_cons hi, List.set_cons_zero]
  have : mkP k (ps.take (i + 1)) = mkP k (ps.take i) ++ [⟨k + szP (ps.take i), k + szP (ps.take i) + 1, k + szP (ps.take i) + 1 + 1, p.sv, upto (k + szP (ps.take i) + 1 + 1 + 1) p.sig.length⟩] := by
    rw [snoc_get h]
    generalize ps.take i = l
    clear hl
    induction l generalizing k with
    | nil => simp [mkP, szP, sigs]
    | cons q l ih =>
      simp only [List.cons_append, mkP]
      rw [ih]
      have : k + 1 + 1 + 1 + (q.sig.length : Int) + (szP l : Int) = k + (szP (q :: l) : Int) := by simp [szP, sigs]; omega
      rw [this]
  rw [this, List.append_assoc]; rfl
theorem szP_take (ps : List Pk) {i : Nat} {p : Pk} (h : ps[i]? = some p) : szP (ps.take (i + 1)) = szP (ps.take i) + 3 + p.sig.length := by
  rw [snoc_get h]; simp [szP, sigs_snoc]; omega
theorem held_el {a ps : List Pk} {k0 : Int} {k : Nat} {x p : Pk} (ha : a = mkP k0 ps) (hp : ps[k]? = some p) (hx : a[k]? = some x) : x.message = k0 + szP (ps.take k) ∧ x.part = k0 + szP (ps.take k) + 1 ∧ x.parts = k0 + szP (ps.take k) + 1 + 1 ∧ x.sig = upto (k0 + szP (ps.take k) + 1 + 1 + 1) p.sig.length ∧ x.sig.length = p.sig.length := by
  rw [ha, mkP_get k0 ps k p hp] at hx
  obtain rfl := Option.some.inj hx
  exact ⟨rfl, rfl, rfl, rfl, upto_length _ _⟩
theorem held_nums {a ps : List Pk} {k0 m : Int} {k : Nat} {x : Pk} (ha : a = mkP k0 ps) (hm : m = k0 + szP (ps.take k)) (hx : a[k]? = some x) (hk : k < ps.length) : x.message = m ∧ x.part = m + 1 ∧ x.parts = m + 1 + 1 := by
  have := held_el ha (List.getElem?_eq_getElem hk) hx
  exact ⟨by omega, by omega, by omega⟩
theorem held_sig {a ps : List Pk} {k0 m : Int} {k : Nat} {x : Pk} (ha : a = mkP k0 ps) (hm : m = k0 + szP (ps.take k)) (hx : a[k]? = some x) (hk : k < ps.length) : x.sig = upto (m + 1 + 1 + 1) x.sig.length := by
  have := held_el ha (List.getElem?_eq_getElem hk) hx
  rw [this.2.2.2.2, hm]; exact this.2.2.2.1
theorem held_len {a ps : List Pk} {k0 : Int} {k : Nat} {x : Pk} (ha : a = mkP k0 ps) (hx : a[k]? = some x) : x.sig.length ≤ szP ps := by
  have hk : k < ps.length := by have := (List.getElem?_eq_some_iff.1 hx).1; rw [ha, mkP_len] at this; exact this
  have := held_el ha (List.getElem?_eq_getElem hk) hx
  have h2 := sig_le (List.getElem?_eq_getElem hk)
  simp only [szP]; omega
theorem mk_at {ps a : List Pk} {n : Int} {k : Nat} {x p : Pk} (hps : ps = mkP n (a.take k) ++ a.drop k) (hp : a[k]? = some p) (hx : ps[k]? = some x) : x = p := by
  have hk : k < a.length := (List.getElem?_eq_some_iff.1 hp).1
  rw [hps, List.getElem?_append_right (by rw [mkP_len]; simp; omega), mkP_len] at hx
  have : k - (a.take k).length = 0 := by simp; omega
  rw [this, List.getElem?_drop, Nat.add_zero, hp] at hx
  exact (Option.some.inj hx).symm
theorem szP_le (ps : List Pk) (i : Nat) : szP (ps.take i) ≤ szP ps := by
  have := sigs_take ps i
  simp [szP]; omega


theorem set_take {α : Type} {xs ys : List α} {k : Nat} {x y : α} (h : xs.take k = ys.take k) (hk : k < xs.length) (hy : ys[k]? = some y) (e : x = y) : (xs.set k x).take (k + 1) = ys.take (k + 1) := by
  refine take_ext (x := x) (y := y) ?_ (List.getElem?_set_self hk) hy e
  rw [List.take_set_of_le (Nat.le_refl k)]; exact h

end Go.Proofs.YtbikhpphdhffaaaGreatDoor
