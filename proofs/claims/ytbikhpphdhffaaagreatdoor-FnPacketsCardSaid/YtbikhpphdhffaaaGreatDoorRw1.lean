/- The laws' helpers on rows of rows of numbers. Condition: none. Printed in part by a program. -/
import Derived.Test.YtbikhpphdhffaaaGreatDoorPk2
namespace Go.Proofs.YtbikhpphdhffaaaGreatDoor
open Go.Vc
set_option linter.all false

/-- what marking leaves behind -/
def mkR : Int → List RowI → List RowI
  | _, [] => []
  | k, p :: ps => ⟨p.sv, upto k p.sig.length⟩ :: mkR (k + p.sig.length) ps
def szR (ps : List RowI) : Nat := (ps.map fun p => p.sig.length).sum
def szRD (l : List (List Int)) : Nat := (l.map List.length).sum
theorem szR_eq (ps : List RowI) : szR ps = szRD (ps.map RowI.sig) := by simp [szR, szRD, Function.comp_def]
theorem szR_snoc (ps : List RowI) (p : RowI) : szR (ps ++ [p]) = szR ps + p.sig.length := by simp [szR]
theorem szR_take (ps : List RowI) {i : Nat} {p : RowI} (h : ps[i]? = some p) : szR (ps.take (i + 1)) = szR (ps.take i) + p.sig.length := by
  rw [snoc_get h, szR_snoc]
theorem szR_le (ps : List RowI) (k : Nat) : szR (ps.take k) ≤ szR ps := by
  have h : szR ps = szR (ps.take k) + szR (ps.drop k) := by
    unfold szR; rw [← List.sum_append, ← List.map_append, List.take_append_drop]
  omega
theorem sigR_le {ps : List RowI} {k : Nat} {p : RowI} (h : ps[k]? = some p) : p.sig.length + szR (ps.take k) ≤ szR ps := by
  have := szR_le ps (k + 1)
  rw [szR_take ps h] at this; omega
theorem mkR_len (k : Int) (ps : List RowI) : (mkR k ps).length = ps.length := by
  induction ps generalizing k with
  | nil => rfl
  | cons p ps ih => simp [mkR, ih]
theorem mkR_get (k : Int) (ps : List RowI) (i : Nat) (p : RowI) (h : ps[i]? = some p) : (mkR k ps)[i]? = some ⟨p.sv, upto (k + szR (ps.take i)) p.sig.length⟩ := by
  induction ps generalizing k i with
  | nil => simp at h
  | cons q ps ih =>
    cases i with
    | zero => simp at h; subst h; simp [mkR, szR]
    | succ i =>
      simp only [mkR, List.getElem?_cons_succ, List.take_succ_cons]
      rw [ih _ i (by simpa using h)]
      have : k + (q.sig.length : Int) + (szR (ps.take i) : Int) = k + (szR (q :: ps.take i) : Int) := by simp [szR]; omega
      rw [this]
theorem mkR_snoc (k : Int) (l : List RowI) (p : RowI) : mkR k (l ++ [p]) = mkR k l ++ [⟨p.sv, upto (k + szR l) p.sig.length⟩] := by
  induction l generalizing k with
  | nil => simp [mkR, szR]
  | cons q l ih =>
    simp only [List.cons_append, mkR]
    rw [ih]
    have : k + (q.sig.length : Int) + (szR l : Int) = k + (szR (q :: l) : Int) := by simp [szR]; omega
    rw [this]
theorem mkR_step (k : Int) (ps : List RowI) (i : Nat) (p : RowI) (h : ps[i]? = some p) : (mkR k (ps.take i) ++ ps.drop i).set i ⟨p.sv, upto (k + szR (ps.take i)) p.sig.length⟩ = mkR k (ps.take (i + 1)) ++ ps.drop (i + 1) := by
  have hi : i < ps.length := (List.getElem?_eq_some_iff.1 h).1
  have hl : (mkR k (ps.take i)).length = i := by rw [mkR_len]; simp; omega
  rw [List.set_append_right _ _ (by omega), hl, Nat.sub_self, List.drop_eq_getElem_cons hi, List.set_cons_zero, snoc_get h, mkR_snoc, List.append_assoc]; rfl
theorem mkR_at {ps a : List RowI} {n : Int} {k : Nat} {x p : RowI} (hps : ps = mkR n (a.take k) ++ a.drop k) (hp : a[k]? = some p) (hx : ps[k]? = some x) : x = p := by
  have hk : k < a.length := (List.getElem?_eq_some_iff.1 hp).1
  rw [hps, List.getElem?_append_right (by rw [mkR_len]; simp; omega), mkR_len] at hx
  have : k - (a.take k).length = 0 := by simp; omega
  rw [this, List.getElem?_drop, Nat.add_zero, hp] at hx
  exact (Option.some.inj hx).symm
theorem heldR_el {a ps : List RowI} {k0 : Int} {k : Nat} {x p : RowI} (ha : a = mkR k0 ps) (hp : ps[k]? = some p) (hx : a[k]? = some x) : x.sig = upto (k0 + szR (ps.take k)) p.sig.length ∧ x.sig.length = p.sig.length := by
  rw [ha, mkR_get k0 ps k p hp] at hx
  obtain rfl := Option.some.inj hx
  exact ⟨rfl, upto_length _ _⟩
theorem heldR_sig {a ps : List RowI} {k0 m : Int} {k : Nat} {x : RowI} (ha : a = mkR k0 ps) (hm : m = k0 + szR (ps.take k)) (hx : a[k]? = some x) (hk : k < ps.length) : x.sig = upto m x.sig.length := by
  have := heldR_el ha (List.getElem?_eq_getElem hk) hx
  rw [this.2, hm]; exact this.1
theorem heldR_len {a ps : List RowI} {k0 : Int} {k : Nat} {x : RowI} (ha : a = mkR k0 ps) (hx : a[k]? = some x) : x.sig.length ≤ szR ps := by
  have hk : k < ps.length := by have := (List.getElem?_eq_some_iff.1 hx).1; rw [ha, mkR_len] at this; exact this
  have := heldR_el ha (List.getElem?_eq_getElem hk) hx
  have h2 := sigR_le (List.getElem?_eq_getElem hk)
  omega

end Go.Proofs.YtbikhpphdhffaaaGreatDoor
