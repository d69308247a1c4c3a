/- Sorted packets. Condition: none. Printed in part by a program. -/
import Derived.Test.YtjmcijcdncgaiaaPk12
namespace Go.Proofs.Ytjmcijcdncgaiaa
open Go.Vc
set_option linter.all false

abbrev ppKey (p : PkP) : K2 := (p.message, p.part)
instance (a b : K2) : Decidable (ltK a b) := inferInstanceAs (Decidable (_ ∨ _))
abbrev ordP (l : List PkP) : Prop := l.Pairwise fun x y => ¬ ltK (ppKey y) (ppKey x)
abbrev clsP (c : K2) (l : List PkP) : List PkP := l.filter fun x => decide (ppKey x = c)
def insP (p : PkP) (o : List PkP) : List PkP := o.filter (fun x => !decide (ltK (ppKey p) (ppKey x))) ++ p :: o.filter (fun x => decide (ltK (ppKey p) (ppKey x)))
def srtL (l : List PkP) : List PkP := l.foldl (fun o p => insP p o) []
theorem srt_snoc (l : List PkP) (p : PkP) : srtL (l ++ [p]) = insP p (srtL l) := by simp [srtL]
theorem ins_ord {p : PkP} {o : List PkP} (h : ordP o) : ordP (insP p o) := by
  unfold insP
  rw [ordP, List.pairwise_append, List.pairwise_cons]
  refine ⟨h.filter _, ⟨fun y hy => ?_, h.filter _⟩, fun x hx y hy => ?_⟩
  · have := (List.mem_filter.1 hy).2
    simp only [decide_eq_true_eq] at this
    exact fun hc => ltK_irr (ltK_tr this hc)
  · have hx2 := (List.mem_filter.1 hx).2
    simp only [Bool.not_eq_eq_eq_not, Bool.not_true, decide_eq_false_iff_not] at hx2
    rcases List.mem_cons.1 hy with rfl | hy
    · exact hx2
    · have := (List.mem_filter.1 hy).2
      simp only [decide_eq_true_eq] at this
      exact fun hc => hx2 (ltK_tr this hc)
theorem filt_two {α : Type} (C A : α → Bool) (o : List α) (h : ∀ x, C x = true → A x = true) : (o.filter (fun x => !A x)).filter C = [] ∧ (o.filter A).filter C = o.filter C := by
  refine ⟨?_, ?_⟩
  · rw [List.filter_filter]
    refine List.filter_eq_nil_iff.2 fun x _ hx => ?_
    cases hc : C x
    · rw [hc] at hx; simp at hx
    · rw [hc, h x hc] at hx; simp at hx
  · rw [List.filter_filter]
    refine List.filter_congr fun x _ => ?_
    cases hc : C x
    · rfl
    · rw [h x hc]; rfl
theorem filt_two2 {α : Type} (C A : α → Bool) (o : List α) (h : ∀ x, C x = true → A x = false) : (o.filter (fun x => !A x)).filter C = o.filter C ∧ (o.filter A).filter C = [] := by
  refine ⟨?_, ?_⟩
  · rw [List.filter_filter]
    refine List.filter_congr fun x _ => ?_
    cases hc : C x
    · rfl
    · rw [h x hc]; rfl
  · rw [List.filter_filter]
    refine List.filter_eq_nil_iff.2 fun x _ hx => ?_
    cases hc : C x
    · rw [hc] at hx; simp at hx
    · rw [hc, h x hc] at hx; simp at hx
theorem ins_cls (p : PkP) (o : List PkP) (c : K2) : clsP c (insP p o) = clsP c (o ++ [p]) := by
  have key : ∀ o : List PkP, clsP c (o.filter (fun x => !decide (ltK (ppKey p) (ppKey x)))) = (if ltK (ppKey p) c then [] else clsP c o) ∧ clsP c (o.filter (fun x => decide (ltK (ppKey p) (ppKey x)))) = (if ltK (ppKey p) c then clsP c o else []) := by
    intro o
    by_cases hl : ltK (ppKey p) c
    · rw [if_pos hl, if_pos hl]
      exact filt_two _ _ o fun x hx => by
        have hx := of_decide_eq_true hx
        exact decide_eq_true (by rw [hx]; exact hl)
    · rw [if_neg hl, if_neg hl]
      exact filt_two2 _ _ o fun x hx => by
        have hx := of_decide_eq_true hx
        exact decide_eq_false (by rw [hx]; exact hl)
  unfold insP
  have k := key o
  simp only [clsP] at k ⊢
  rw [List.filter_append, List.filter_append, k.1, List.filter_cons, k.2]
  by_cases hp : ppKey p = c
  · subst hp
    simp [ltK_irr]
  · by_cases hl : ltK (ppKey p) c
    · simp [hl, hp]
    · simp [hl, hp]
theorem srt_props (l : List PkP) : ordP (srtL l) ∧ ∀ c, clsP c (srtL l) = clsP c l := by
  have key : ∀ (l o : List PkP), ordP o → ordP (l.foldl (fun o p => insP p o) o) ∧ ∀ c, clsP c (l.foldl (fun o p => insP p o) o) = clsP c (o ++ l) := by
    intro l
    induction l with
    | nil => intro o ho; simpa using ho
    | cons p l ih =>
      intro o ho
      have := ih (insP p o) (ins_ord ho)
      refine ⟨this.1, fun c => ?_⟩
      rw [List.foldl_cons, this.2 c]
      have e := ins_cls p o c
      simp only [clsP, List.filter_append] at e ⊢
      rw [e, List.append_assoc]
      congr 1
      rw [← List.filter_append]; rfl
  have := key l [] List.Pairwise.nil
  exact ⟨this.1, fun c => (this.2 c).trans (by rw [List.nil_append])⟩
theorem ins_len (p : PkP) (o : List PkP) : (insP p o).length = o.length + 1 := by
  unfold insP
  have : ∀ (f : PkP → Bool) (o : List PkP), (o.filter (fun x => !f x)).length + (o.filter f).length = o.length := by
    intro f o
    induction o with
    | nil => rfl
    | cons x o ih => simp only [List.filter_cons]; cases f x <;> simp <;> omega
  have := this (fun x => decide (ltK (ppKey p) (ppKey x))) o
  simp only [List.length_append, List.length_cons]; omega
theorem srt_len (l : List PkP) : (srtL l).length = l.length := by
  have key : ∀ (l o : List PkP), (l.foldl (fun o p => insP p o) o).length = o.length + l.length := by
    intro l
    induction l with
    | nil => intro o; rfl
    | cons p l ih => intro o; rw [List.foldl_cons, ih, ins_len, List.length_cons]; omega
  simpa [srtL] using key l []
theorem so_iff {α : Type} {key : α → K2} {d : List α} : SoOn key d 0 d.length ↔ d.Pairwise fun x y => ¬ ltK (key y) (key x) := by
  rw [List.pairwise_iff_getElem]
  constructor
  · intro h i j hi hj hij
    exact h i j (by omega) hij hj _ _ (List.getElem?_eq_getElem hi) (List.getElem?_eq_getElem hj)
  · intro h i j _ hij hj x y hx hy
    obtain ⟨h1, rfl⟩ := List.getElem?_eq_some_iff.1 hx
    obtain ⟨h2, rfl⟩ := List.getElem?_eq_some_iff.1 hy
    exact h i j h1 h2 hij
theorem srt_of {d l : List PkP} (h : ordP d) (hc : ∀ c, clsP c d = clsP c l) : d = srtL l :=
  so_unique (key := ppKey) (so_iff.2 (srt_props l).1) (so_iff.2 h) fun c => (hc c).trans ((srt_props l).2 c).symm
/-- sorted in place -/
theorem srt_in {ps q : List Pk} {l : List PkP} (hps : ps.map Pk.p = l) (h : Like pkKey ps q 0 ps.length ∧ SoOn pkKey q 0 ps.length) : q.map Pk.p = srtL l := by
  have h2 := h.2
  rw [← h.1.len] at h2
  refine srt_of ?_ fun c => ?_
  · rw [ordP, List.pairwise_map]
    exact so_iff.1 h2
  · have := h.1.cls c
    rw [clsP, clsP, ← hps, List.filter_map, List.filter_map]
    exact congrArg (List.map Pk.p) this
noncomputable def srtOut (l : List PkP) : List PkP × Bool := if PksOk l then (srtL l, true) else ([], false)
theorem so_no {l : List PkP} (h : ¬ PksOk l) : srtOut l = ([], false) := by rw [srtOut, if_neg h]
theorem so_yes {l : List PkP} (h : PksOk l) : srtOut l = (srtL l, true) := by rw [srtOut, if_pos h]
theorem so_impl {ps q l : List Pk} {k : Nat} (hok : PksOk (l.map Pk.p)) (hps : ps.map Pk.p = (l.map Pk.p).take k) (hk : ¬ (k : Int) < (l.length : Int)) (h : Like pkKey ps q 0 ps.length ∧ SoOn pkKey q 0 ps.length) : srtOut (l.map Pk.p) = (q.map Pk.p, true) := by
  rw [take_all (by simpa using hk)] at hps
  rw [so_yes hok, srt_in hps h]
theorem so_spec {ps l : List Pk} {k : Nat} (hok : PksOk (l.map Pk.p)) (hps : ps.map Pk.p = srtL ((l.map Pk.p).take k)) (hk : ¬ (k : Int) < (l.length : Int)) : srtOut (l.map Pk.p) = (ps.map Pk.p, true) := by
  rw [take_all (by simpa using hk)] at hps
  rw [so_yes hok, hps]
theorem ins_mid {o : List PkP} {p : PkP} {j : Nat} (h1 : ∀ y ∈ o.drop j, ltK (ppKey p) (ppKey y)) (h2 : ∀ y ∈ o.take j, ¬ ltK (ppKey p) (ppKey y)) : insP p o = o.take j ++ p :: o.drop j := by
  have e : o = o.take j ++ o.drop j := (List.take_append_drop j o).symm
  unfold insP
  have a1 : (o.take j).filter (fun x => !decide (ltK (ppKey p) (ppKey x))) = o.take j := List.filter_eq_self.2 fun y hy => by simp [h2 y hy]
  have a2 : (o.drop j).filter (fun x => !decide (ltK (ppKey p) (ppKey x))) = [] := List.filter_eq_nil_iff.2 fun y hy => by simp [h1 y hy]
  have a3 : (o.take j).filter (fun x => decide (ltK (ppKey p) (ppKey x))) = [] := List.filter_eq_nil_iff.2 fun y hy => by simp [h2 y hy]
  have a4 : (o.drop j).filter (fun x => decide (ltK (ppKey p) (ppKey x))) = o.drop j := List.filter_eq_self.2 fun y hy => by simp [h1 y hy]
  rw [show o.filter (fun x => !decide (ltK (ppKey p) (ppKey x))) = (o.take j ++ o.drop j).filter (fun x => !decide (ltK (ppKey p) (ppKey x))) by rw [← e],
    show o.filter (fun x => decide (ltK (ppKey p) (ppKey x))) = (o.take j ++ o.drop j).filter (fun x => decide (ltK (ppKey p) (ppKey x))) by rw [← e], List.filter_append, List.filter_append, a1, a2, a3, a4]
  simp
theorem nlt_tr3 {a b c : K2} (h : ¬ ltK b a) (k : ¬ ltK c b) : ¬ ltK c a := by unfold ltK at *; omega
theorem ins_step {ps l : List Pk} {k : Nat} {x e : Pk} {j : Int} (hps : ps.map Pk.p = srtL ((l.map Pk.p).take k)) (hx : l[k]? = some x) (he : e.p = x.p) (h0 : 0 ≤ j) (hj : j ≤ (ps.length : Int)) (h1 : ∀ (i : Nat) y, j ≤ (i : Int) → ps[i]? = some y → ltK (pkKey x) (pkKey y))
    (h2 : ∀ y, 0 < j → ps[(j - 1).toNat]? = some y → ¬ ltK (pkKey x) (pkKey y)) : (ps.take j.toNat ++ [e] ++ ps.drop j.toNat).map Pk.p = srtL ((l.map Pk.p).take (k + 1)) := by
  have ho := (srt_props ((l.map Pk.p).take k)).1
  rw [← hps] at ho
  rw [snoc_get (map_get hx), srt_snoc, ← hps, ins_mid (j := j.toNat)]
  · simp [he]
  · intro y hy
    rw [← List.map_drop] at hy
    obtain ⟨z, hz, rfl⟩ := List.mem_map.1 hy
    obtain ⟨i, hi⟩ := List.mem_iff_getElem?.1 hz
    rw [List.getElem?_drop] at hi
    exact h1 _ z (by omega) hi
  · intro y hy
    rw [← List.map_take] at hy
    obtain ⟨z, hz, rfl⟩ := List.mem_map.1 hy
    obtain ⟨i, hi⟩ := List.mem_iff_getElem?.1 hz
    have hij : i < j.toNat := by
      have := (List.getElem?_eq_some_iff.1 hi).1
      rw [List.length_take] at this; omega
    rw [List.getElem?_take_of_lt hij] at hi
    have hm : (j - 1).toNat < ps.length := by omega
    have t := h2 _ (by omega) (List.getElem?_eq_getElem hm)
    by_cases hc : i = (j - 1).toNat
    · subst hc
      rw [List.getElem?_eq_getElem hm] at hi
      obtain rfl := Option.some.inj hi
      exact t
    · rw [ordP, List.pairwise_map] at ho
      have hi2 := List.getElem?_eq_some_iff.1 hi
      have := List.pairwise_iff_getElem.1 ho i (j - 1).toNat hi2.1 hm (by omega)
      rw [hi2.2] at this
      exact nlt_tr3 this t

end Go.Proofs.Ytjmcijcdncgaiaa
