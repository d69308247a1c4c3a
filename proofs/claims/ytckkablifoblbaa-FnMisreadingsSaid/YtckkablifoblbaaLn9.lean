/- A table of lines: plain laws. Condition: none. -/
import Derived.Test.YtckkablifoblbaaLn8b
import Derived.Test.YtckkablifoblbaaStep2
import Derived.Test.YtckkablifoblbaaDeep2
import Derived.Test.YtckkablifoblbaaTypes
namespace Go.Vc
set_option linter.all false
/-- rows held apart are a deep row -/
theorem Held.deep {h : Heap} {H : Value} {svs : List SV} {LL : List (List Int)} {lo : Nat} {av : List Nat} (hh : Held h H svs LL lo av) : ∃ ps : List RowI, ps.map RowI.sig = LL ∧ ps.map RowI.sv = svs ∧ DeepO h H ps lo := by
  refine ⟨List.zipWith RowI.mk svs LL, ?_, ?_, ?_⟩
  · apply List.ext_getElem?
    intro i
    rw [List.getElem?_map, List.getElem?_zipWith]
    have hl := hh.len
    by_cases hi : i < LL.length
    · rw [List.getElem?_eq_getElem hi, List.getElem?_eq_getElem (by omega)]; rfl
    · rw [List.getElem?_eq_none (by omega : LL.length ≤ i), List.getElem?_eq_none (by omega : svs.length ≤ i)]; rfl
  · apply List.ext_getElem?
    intro i
    rw [List.getElem?_map, List.getElem?_zipWith]
    have hl := hh.len
    by_cases hi : i < LL.length
    · rw [List.getElem?_eq_getElem hi, List.getElem?_eq_getElem (by omega)]; rfl
    · rw [List.getElem?_eq_none (by omega : LL.length ≤ i), List.getElem?_eq_none (by omega : svs.length ≤ i)]; rfl
  · have hl := hh.len
    have hz : ∀ (i : Nat) (p : RowI), (List.zipWith RowI.mk svs LL)[i]? = some p → svs[i]? = some p.sv ∧ LL[i]? = some p.sig := by
      intro i p hp
      rw [List.getElem?_zipWith] at hp
      cases e1 : svs[i]? <;> cases e2 : LL[i]? <;> simp [e1, e2] at hp
      subst hp; exact ⟨rfl, rfl⟩
    have hm : ∀ p ∈ List.zipWith RowI.mk svs LL, ∃ i : Nat, svs[i]? = some p.sv ∧ LL[i]? = some p.sig := by
      intro p hp
      obtain ⟨i, hi⟩ := List.getElem?_of_mem hp
      exact ⟨i, hz i p hi⟩
    have hf : ∀ (s : List SV) (L : List (List Int)), s.length = L.length → flat (List.zipWith RowI.mk s L) = flat s := by
      intro s
      induction s with
      | nil => intro L _; rfl
      | cons a s ih =>
        intro L hL
        cases L with
        | nil => simp at hL
        | cons b L =>
          show Enc.cells (RowI.mk a b) ++ flat (List.zipWith RowI.mk s L) = Enc.cells a ++ flat s
          rw [ih L (by simpa using hL)]; rfl
    refine ⟨?_, ?_, ?_, ?_, ?_⟩
    · obtain ⟨a, c, hv, hs⟩ := hh.row
      have hzl : (List.zipWith RowI.mk svs LL).length = svs.length := by simp; omega
      refine ⟨a, c, by rw [hzl]; exact hv, ?_⟩
      rcases hs with ⟨h1, h2⟩ | ⟨ad, h0, h1, h2, h3, h4, C, T, fz, h5, h6, h7, h8⟩
      · left; subst h1; exact ⟨rfl, h2⟩
      · right
        refine ⟨ad, h0, h1, h2, by rw [hzl]; exact h3, h4, C, T, fz, h5, h6, h7, ?_⟩
        rw [hzl, hf svs LL hl]; exact h8
    · intro p hp
      obtain ⟨i, h1, h2⟩ := hm p hp
      exact hh.get i _ _ h1 h2
    · intro b hb
      rcases mem_fpts.1 hb with hb | ⟨p, hp, hb⟩
      · exact hh.frH b hb
      · obtain ⟨i, h1, _⟩ := hm p hp
        exact hh.fr _ (List.mem_of_getElem? h1) b hb
    · intro p hp b hb
      obtain ⟨i, h1, _⟩ := hm p hp
      exact (hh.off _ (List.mem_of_getElem? h1) b hb).1
    · rw [List.pairwise_iff_getElem]
      intro i j hi hj hij b hb
      have e1 := hz i _ (List.getElem?_eq_getElem hi)
      have e2 := hz j _ (List.getElem?_eq_getElem hj)
      exact hh.apart i j _ _ e1.1 e2.1 (by omega) b hb
end Go.Vc
namespace Go.Proofs.Ytckkablifoblbaa
open Go.Vc
set_option linter.all false
def lineCl (t r : Int) (sg sc : List Int) : Nat := if (runOf t r sg sc).2.2.isSome then 2 else if 0 < (wrongF sg ((runOf t r sg sc).1.getD (t.toNat - 1) []) 0).length then 1 else 0
def bump (o : List Int) (i : Nat) : List Int := o.set i (o.getD i 0 + 1)
def tabF (t r : Int) (sg : List Int) (scs : List (List Int)) : List Int := scs.foldl (fun o sc => bump o (lineCl t r sg sc)) [0, 0, 0]
theorem tab_snoc {t r : Int} {sg sc : List Int} {scs : List (List Int)} : tabF t r sg (scs ++ [sc]) = bump (tabF t r sg scs) (lineCl t r sg sc) := by simp [tabF]
theorem bump_in {o : List Int} {i n : Nat} (h : ∀ x ∈ o, 0 ≤ x ∧ x ≤ (n : Int)) : ∀ x ∈ bump o i, 0 ≤ x ∧ x ≤ ((n + 1 : Nat) : Int) := by
  intro x hx
  rcases List.mem_or_eq_of_mem_set hx with hx | hx
  · have := h x hx; omega
  · have hg : 0 ≤ o.getD i 0 ∧ o.getD i 0 ≤ (n : Int) := by
      rw [List.getD_eq_getElem?_getD]
      cases e : o[i]? with
      | none => simp
      | some y => exact h y (List.mem_of_getElem? e)
    omega
theorem fold_in {t r : Int} {sg : List Int} : ∀ (scs : List (List Int)) (o : List Int) (n : Nat), (∀ x ∈ o, 0 ≤ x ∧ x ≤ (n : Int)) → ∀ x ∈ scs.foldl (fun o sc => bump o (lineCl t r sg sc)) o, 0 ≤ x ∧ x ≤ ((n + scs.length : Nat) : Int)
  | [], o, n, h => by simpa using h
  | sc :: scs, o, n, h => by
    have := fold_in (t := t) (r := r) (sg := sg) scs (bump o (lineCl t r sg sc)) (n + 1) (bump_in h)
    intro x hx
    have := this x hx
    simp only [List.length_cons]; omega
theorem tab_in {t r : Int} {sg : List Int} (scs : List (List Int)) : ∀ x ∈ tabF t r sg scs, 0 ≤ x ∧ x ≤ (scs.length : Int) := by
  have := fold_in (t := t) (r := r) (sg := sg) scs [0, 0, 0] 0 (by simp)
  simpa [tabF] using this
theorem fold_len {t r : Int} {sg : List Int} : ∀ (scs : List (List Int)) (o : List Int), (scs.foldl (fun o sc => bump o (lineCl t r sg sc)) o).length = o.length
  | [], o => rfl
  | sc :: scs, o => by rw [List.foldl_cons, fold_len scs, bump, List.length_set]
theorem tab_len {t r : Int} {sg : List Int} (scs : List (List Int)) : (tabF t r sg scs).length = 3 := fold_len scs _
theorem tab_at {t r : Int} {sg o : List Int} {ps : List RowI} {k i : Nat} {x : RowI} {y : Int} (ho : o = tabF t r sg ((ps.take k).map RowI.sig)) (hx : ps[k]? = some x) (hy : o[i]? = some y) (hc : lineCl t r sg x.sig = i) : o.set i (y + 1) = tabF t r sg ((ps.take (k + 1)).map RowI.sig) := by
  rw [snoc_get hx, List.map_append, List.map_singleton, tab_snoc, ← ho, hc, bump, List.getD_eq_getElem?_getD, hy]; rfl
theorem cl_stuck {t r : Int} {sg sc : List Int} (h : (runOf t r sg sc).2.2.isSome = true) : lineCl t r sg sc = 2 := by rw [lineCl, if_pos h]
theorem cl_wrong {t r : Int} {sg sc : List Int} (h : ¬ (runOf t r sg sc).2.2.isSome = true) (hw : 0 < (wrongF sg ((runOf t r sg sc).1.getD (t.toNat - 1) []) 0).length) : lineCl t r sg sc = 1 := by rw [lineCl, if_neg h, if_pos hw]
theorem cl_good {t r : Int} {sg sc : List Int} (h : ¬ (runOf t r sg sc).2.2.isSome = true) (hw : ¬ 0 < (wrongF sg ((runOf t r sg sc).1.getD (t.toNat - 1) []) 0).length) : lineCl t r sg sc = 0 := by rw [lineCl, if_neg h, if_neg hw]
theorem st_pos {x : Run} (h : x.stuck ≥ 0) : x.2.2.isSome = true := by
  by_cases c : x.2.2.isSome = true
  · exact c
  · have := (stuck_neg x).2 (by simpa using c); omega
theorem st_neg {x : Run} (h : ¬ x.stuck ≥ 0) : ¬ x.2.2.isSome = true := by
  have := (stuck_neg x).1 (by omega)
  simp [this]
theorem row_at {qs : List RowI} {LL : List (List Int)} {q : RowI} {i : Nat} (he : qs.map RowI.sig = LL) (hq : qs[i]? = some q) : q.sig = LL.getD i [] := by
  rw [← he, List.getD_eq_getElem?_getD, List.getElem?_map, hq]; rfl
def TabAsk (t r : Int) (sg : List Int) (scs : List (List Int)) : Prop := scs.length ≤ 10 ∧ Asked t r sg [] ∧ ∀ sc ∈ scs, ScriptOk sc
noncomputable instance (t r : Int) (sg : List Int) (scs : List (List Int)) : Decidable (TabAsk t r sg scs) := Classical.propDecidable _
noncomputable def tabOut (t r : Int) (sg : List Int) (scs : List (List Int)) : List Int × Bool := if TabAsk t r sg scs then (tabF t r sg scs, true) else ([], false)
theorem tab_no {t r : Int} {sg : List Int} {scs : List (List Int)} (h : ¬ TabAsk t r sg scs) : tabOut t r sg scs = ([], false) := by rw [tabOut, if_neg h]
theorem tab_yes {t r : Int} {sg : List Int} {scs : List (List Int)} (h : TabAsk t r sg scs) : tabOut t r sg scs = (tabF t r sg scs, true) := by rw [tabOut, if_pos h]
theorem tab_bad {t r : Int} {sg : List Int} {ps : List RowI} {k : Nat} {x : RowI} (hx : ps[k]? = some x) (h : ¬ ScriptOk x.sig) : tabOut t r sg (ps.map RowI.sig) = ([], false) :=
  tab_no fun c => h (c.2.2 _ (List.mem_map_of_mem (List.mem_of_getElem? hx)))
theorem tabOut_len (t r : Int) (sg : List Int) (scs : List (List Int)) : (tabOut t r sg scs).1.length ≤ 3 := by
  unfold tabOut
  split
  · rw [tab_len]; omega
  · simp
theorem sc_snoc {ps : List RowI} {k : Nat} {x : RowI} (h : ∀ p ∈ ps.take k, ScriptOk p.sig) (hx : ps[k]? = some x) (hp : ScriptOk x.sig) : ∀ p ∈ ps.take (k + 1), ScriptOk p.sig := by
  rw [snoc_get hx]
  intro p hm
  rcases List.mem_append.1 hm with hm | hm
  · exact h p hm
  · obtain rfl := List.mem_singleton.1 hm; exact hp
theorem tab_end {t r : Int} {sg o : List Int} {ps : List RowI} {k : Nat} (hl : ps.length ≤ 10) (ha : Asked t r sg []) (h : ∀ p ∈ ps.take k, ScriptOk p.sig) (hk : ¬ (k : Int) < (ps.length : Int)) (ho : o = tabF t r sg ((ps.take k).map RowI.sig)) : (o, true) = tabOut t r sg (ps.map RowI.sig) := by
  have e : ps.take k = ps := List.take_of_length_le (by omega)
  rw [e] at h ho
  rw [tab_yes ⟨by simpa using hl, ha, fun sc hs => by obtain ⟨p, hp, rfl⟩ := List.mem_map.1 hs; exact h p hp⟩, ho]
end Go.Proofs.Ytckkablifoblbaa
