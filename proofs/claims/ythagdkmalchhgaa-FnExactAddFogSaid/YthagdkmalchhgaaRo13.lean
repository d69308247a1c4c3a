/- One fog more: plain laws. Condition: none. -/
import Derived.Test.YthagdkmalchhgaaRo4
namespace Go.Proofs.Ythagdkmalchhgaa
open Go.Vc
set_option linter.all false

def mrg (x y : FogD) : FogD := ⟨x.link, if y.fr < x.fr then y.fr else x.fr, if y.til > x.til then y.til else x.til⟩
abbrev tch (x y : FogD) : Prop := y.link = x.link ∧ y.fr ≤ x.til ∧ x.fr ≤ y.til
def adStep (s : FogD × List FogD × Nat) (y : FogD) : FogD × List FogD × Nat :=
  if tch s.1 y then (mrg s.1 y, s.2.1, s.2.2) else (s.1, s.2.1 ++ [y], if y.link < s.1.link ∨ (y.link = s.1.link ∧ y.fr < s.1.fr) then s.2.1.length + 1 else s.2.2)
def ad (x0 : FogD) (l : List FogD) : FogD × List FogD × Nat := l.foldl adStep (x0, [], 0)
theorem ad_snoc (x0 : FogD) (l : List FogD) (y : FogD) : ad x0 (l ++ [y]) = adStep (ad x0 l) y := by simp [ad]
theorem ad_touch {x0 x y : FogD} {l o : List FogD} {j : Nat} (h : ad x0 l = (x, o, j)) (ht : tch x y) : ad x0 (l ++ [y]) = (mrg x y, o, j) := by rw [ad_snoc, h, adStep, if_pos ht]
theorem ad_less {x0 x y : FogD} {l o : List FogD} {j : Nat} (h : ad x0 l = (x, o, j)) (ht : ¬ tch x y) (hl : y.link < x.link ∨ (y.link = x.link ∧ y.fr < x.fr)) : ad x0 (l ++ [y]) = (x, o ++ [y], o.length + 1) := by rw [ad_snoc, h, adStep, if_neg ht, if_pos hl]
theorem ad_more {x0 x y : FogD} {l o : List FogD} {j : Nat} (h : ad x0 l = (x, o, j)) (ht : ¬ tch x y) (hl : ¬ (y.link < x.link ∨ (y.link = x.link ∧ y.fr < x.fr))) : ad x0 (l ++ [y]) = (x, o ++ [y], j) := by rw [ad_snoc, h, adStep, if_neg ht, if_neg hl]
theorem ad_len (x0 : FogD) (l : List FogD) : (ad x0 l).2.1.length ≤ l.length := by
  have : ∀ (l : List FogD) (s : FogD × List FogD × Nat), (l.foldl adStep s).2.1.length ≤ s.2.1.length + l.length := by
    intro l
    induction l with
    | nil => intro s; simp
    | cons y l ih =>
      intro s
      have h1 : (adStep s y).2.1.length ≤ s.2.1.length + 1 := by unfold adStep; split <;> simp
      have := ih (adStep s y)
      simp only [List.foldl_cons, List.length_cons]; omega
  simpa [ad] using this l (x0, [], 0)
/-- what holds on the way through the fogs -/
structure AdOk (m : Nat) (l : List FogD) (x0 : FogD) (k : Nat) (s : FogD × List FogD × Nat) : Prop where
  ok : FogOk m s.1
  lk : s.1.link = x0.link
  oks : ∀ y ∈ s.2.1, FogOk m y
  pw : s.2.1.Pairwise fgLt
  nx : ∀ y ∈ s.2.1, ∀ (i : Nat) (z : FogD), k ≤ i → l[i]? = some z → fgLt y z
  jle : s.2.2 ≤ s.2.1.length
  bef : ∀ y ∈ s.2.1.take s.2.2, fgLt y s.1
  aft : ∀ y ∈ s.2.1.drop s.2.2, fgLt s.1 y
theorem fgLt_at {m : Nat} {l : List FogD} (h : FogsOk m l) {i j : Nat} {x y : FogD} (hx : l[i]? = some x) (hy : l[j]? = some y) (hij : i < j) : fgLt x y := by
  induction j generalizing y with
  | zero => omega
  | succ j ih =>
    have hj := (List.getElem?_eq_some_iff.1 hy).1
    have hz := List.getElem?_eq_getElem (show j < l.length by omega)
    have hzy := (h.2 (j + 1) y hj hy).2 (by omega) _ hz
    have hzo := h.at hz
    by_cases e : i = j
    · subst e; rw [hx] at hz; have := Option.some.inj hz; subst this; exact hzy
    · have := ih hz (by omega)
      unfold fgLt at *; omega
theorem ad_ok {m : Nat} {l : List FogD} {x0 : FogD} (h : FogsOk m l) (hx0 : FogOk m x0) : ∀ k, k ≤ l.length → AdOk m l x0 k (ad x0 (l.take k)) := by
  intro k
  induction k with
  | zero => intro _; exact ⟨hx0, rfl, by simp [ad], by simp [ad], by simp [ad], by simp [ad], by simp [ad], by simp [ad]⟩
  | succ k ih =>
    intro hk
    have hA := ih (by omega)
    have hy := List.getElem?_eq_getElem (show k < l.length by omega)
    generalize l[k] = y at hy
    have hyo := h.at hy
    rw [snoc_get hy]
    generalize hs : ad x0 (l.take k) = s at hA
    obtain ⟨x, o, j⟩ := s
    obtain ⟨a1, a2, a3, a4, a5, a6, a7, a8⟩ := hA
    simp only at a1 a2 a3 a4 a5 a6 a7 a8
    have hoy : ∀ z ∈ o, fgLt z y := fun z hz => a5 z hz k y (Nat.le_refl _) hy
    -- if something lies behind x, then so does y
    have hbeh : j < o.length → fgLt x y := by
      intro hj
      have hz : o[j] ∈ o.drop j := by rw [List.drop_eq_getElem_cons hj]; exact List.mem_cons_self ..
      have h1 := a8 _ hz
      have hzo := List.mem_of_mem_drop hz
      have h2 := hoy _ hzo
      have h3 := a3 _ hzo
      unfold fgLt at *; omega
    by_cases ht : tch x y
    · rw [ad_touch hs ht]
      have hj : j = o.length := by
        by_cases e : j < o.length
        · have := hbeh e; unfold fgLt at this; unfold tch at ht; omega
        · omega
      have hfr : (mrg x y).fr = x.fr ∨ (mrg x y).fr = y.fr := by simp only [mrg]; split <;> omega
      have htil : (mrg x y).til = x.til ∨ (mrg x y).til = y.til := by simp only [mrg]; split <;> omega
      have hlk : (mrg x y).link = x.link := rfl
      have hb1 : (mrg x y).fr ≤ x.fr ∧ (mrg x y).fr ≤ y.fr := by simp only [mrg]; split <;> omega
      have hb2 : x.til ≤ (mrg x y).til := by simp only [mrg]; split <;> omega
      refine ⟨?_, hlk.trans a2, a3, a4, fun z hz i w hi hw => a5 z hz i w (by omega) hw, a6, fun z hz => ?_, fun z hz => ?_⟩
      · unfold FogOk at *; simp only; omega
      · have h1 := a7 z hz
        have h2 := hoy z (List.mem_of_mem_take hz)
        unfold fgLt tch at *; simp only; omega
      · simp only at hz; rw [hj, List.drop_length] at hz; cases hz
    · by_cases hl : y.link < x.link ∨ (y.link = x.link ∧ y.fr < x.fr)
      · rw [ad_less hs ht hl]
        have hj : j = o.length := by
          by_cases e : j < o.length
          · have := hbeh e; unfold fgLt at this; unfold FogOk at a1; omega
          · omega
        have hyx : fgLt y x := by unfold fgLt tch FogOk at *; omega
        refine ⟨a1, a2, fun z hz => ?_, ?_, fun z hz i w hi hw => ?_, by simp, fun z hz => ?_, fun z hz => ?_⟩
        · rcases List.mem_append.1 hz with hz | hz
          · exact a3 z hz
          · obtain rfl := List.mem_singleton.1 hz; exact hyo
        · simp only
          rw [List.pairwise_append]
          exact ⟨a4, List.pairwise_singleton _ _, fun z hz w hw => by obtain rfl := List.mem_singleton.1 hw; exact hoy z hz⟩
        · rcases List.mem_append.1 hz with hz | hz
          · exact a5 z hz i w (by omega) hw
          · obtain rfl := List.mem_singleton.1 hz; exact fgLt_at h hy hw (by omega)
        · have hz' := List.mem_of_mem_take hz
          rcases List.mem_append.1 hz' with hz' | hz'
          · exact a7 z (by rw [hj, List.take_length]; exact hz')
          · obtain rfl := List.mem_singleton.1 hz'; exact hyx
        · simp only at hz
          rw [List.drop_of_length_le (by simp)] at hz; cases hz
      · rw [ad_more hs ht hl]
        have hxy : fgLt x y := by unfold fgLt tch FogOk at *; omega
        refine ⟨a1, a2, fun z hz => ?_, ?_, fun z hz i w hi hw => ?_, by simp; omega, fun z hz => ?_, fun z hz => ?_⟩
        · rcases List.mem_append.1 hz with hz | hz
          · exact a3 z hz
          · obtain rfl := List.mem_singleton.1 hz; exact hyo
        · simp only
          rw [List.pairwise_append]
          exact ⟨a4, List.pairwise_singleton _ _, fun z hz w hw => by obtain rfl := List.mem_singleton.1 hw; exact hoy z hz⟩
        · rcases List.mem_append.1 hz with hz | hz
          · exact a5 z hz i w (by omega) hw
          · obtain rfl := List.mem_singleton.1 hz; exact fgLt_at h hy hw (by omega)
        · simp only at hz
          rw [List.take_append_of_le_length a6] at hz
          exact a7 z hz
        · simp only at hz
          rw [List.drop_append_of_le_length a6] at hz
          rcases List.mem_append.1 hz with hz | hz
          · exact a8 z hz
          · obtain rfl := List.mem_singleton.1 hz; exact hxy
/-- the fogs with one more in its place -/
def adR (s : FogD × List FogD × Nat) : List FogD := s.2.1.take s.2.2 ++ s.1 :: s.2.1.drop s.2.2
theorem adR_len (s : FogD × List FogD × Nat) : (adR s).length = s.2.1.length + 1 := by
  have := congrArg List.length (List.take_append_drop s.2.2 s.2.1)
  simp only [adR, List.length_append, List.length_cons] at *; omega
theorem adR_perm (s : FogD × List FogD × Nat) : (adR s).Perm (s.2.1 ++ [s.1]) := by
  unfold adR
  refine List.Perm.trans (List.perm_middle) ?_
  rw [List.take_append_drop]
  exact (List.perm_append_singleton s.1 s.2.1).symm
theorem AdOk.pairs {m : Nat} {l : List FogD} {x0 : FogD} {k : Nat} {s : FogD × List FogD × Nat} (h : AdOk m l x0 k s) : (adR s).Pairwise fgLt ∧ ∀ y ∈ adR s, FogOk m y := by
  have hs := List.take_append_drop s.2.2 s.2.1
  have hp := h.pw
  rw [← hs, List.pairwise_append] at hp
  refine ⟨?_, fun y hy => ?_⟩
  · unfold adR
    rw [List.pairwise_append]
    refine ⟨hp.1, List.pairwise_cons.2 ⟨h.aft, hp.2.1⟩, fun y hy z hz => ?_⟩
    rcases List.mem_cons.1 hz with rfl | hz
    · exact h.bef y hy
    · exact hp.2.2 y hy z hz
  · unfold adR at hy
    rcases List.mem_append.1 hy with hy | hy
    · exact h.oks y (List.mem_of_mem_take hy)
    · rcases List.mem_cons.1 hy with rfl | hy
      · exact h.ok
      · exact h.oks y (List.mem_of_mem_drop hy)
theorem fogsOk_of {m : Nat} {R : List FogD} (h : R.Pairwise fgLt) (ho : ∀ y ∈ R, FogOk m y) : FogsOk m R ↔ R.length ≤ 60 := by
  refine ⟨fun q => q.1, fun q => ⟨q, fun i x hi hx => ⟨ho x (List.mem_of_getElem? hx), fun h0 y hy => ?_⟩⟩⟩
  have hyl := (List.getElem?_eq_some_iff.1 hy).1
  have := List.pairwise_iff_getElem.1 h (i - 1) i hyl hi (by omega)
  rw [(List.getElem?_eq_some_iff.1 hy).2, (List.getElem?_eq_some_iff.1 hx).2] at this
  exact this
theorem fgLt_cmp {m : Nat} {x y : FogD} (hx : FogOk m x) (h : fgLt x y) : fgCmp x y < 0 := fgCmp_lt.2 (by unfold fgLt FogOk at *; omega)
/-- there is one order of such fogs -/
theorem sorted_one {R : List FogD} (h : R.Pairwise fun x y => fgCmp x y < 0) : ∀ {ys : List FogD}, ys.Perm R → (∀ (i j : Nat) (x y : FogD), i < j → ys[i]? = some x → ys[j]? = some y → ¬ fgCmp y x < 0) → ys = R := by
  induction R with
  | nil => intro ys hp _; exact hp.eq_nil
  | cons r R ih =>
    intro ys hp hs
    cases ys with
    | nil => exact absurd hp.symm.eq_nil (by simp)
    | cons y ys =>
      have hr := List.pairwise_cons.1 h
      have hy : y = r := by
        have h1 : y ∈ r :: R := hp.mem_iff.1 (List.mem_cons_self ..)
        have h2 : r ∈ y :: ys := hp.mem_iff.2 (List.mem_cons_self ..)
        rcases List.mem_cons.1 h1 with e | h1
        · exact e
        · rcases List.mem_cons.1 h2 with e | h2
          · exact e.symm
          · obtain ⟨j, hj⟩ := List.getElem?_of_mem h2
            have := hs 0 (j + 1) y r (by omega) rfl (by simpa using hj)
            exact absurd (hr.1 y h1) this
      subst hy
      rw [ih hr.2 (List.Perm.cons_inv hp) (fun i j a b hij ha hb => hs (i + 1) (j + 1) a b (by omega) (by simpa using ha) (by simpa using hb))]
structure AddAsk (n : NetP) (l : List FogD) (x : FogD) : Prop where
  hn : NetOk n
  hf : FogsOk n.links.length l
  hx : FogOk n.links.length x
  h60 : (ad x l).2.1.length + 1 ≤ 60
noncomputable instance (n : NetP) (l : List FogD) (x : FogD) : Decidable (AddAsk n l x) := Classical.propDecidable _
noncomputable def addOut (n : NetP) (l : List FogD) (x : FogD) : List FogD × Bool := if AddAsk n l x then (adR (ad x l), true) else ([], false)
theorem add_no {n : NetP} {l : List FogD} {x : FogD} (h : ¬ AddAsk n l x) : addOut n l x = ([], false) := by rw [addOut, if_neg h]
theorem add_yes {n : NetP} {l : List FogD} {x : FogD} (h : AddAsk n l x) : addOut n l x = (adR (ad x l), true) := by rw [addOut, if_pos h]
theorem add_len (n : NetP) (l : List FogD) (x : FogD) : (addOut n l x).1.length ≤ 60 := by
  unfold addOut
  split
  · rename_i h; rw [adR_len]; exact h.h60
  · simp
/-- the first program sorts -/
theorem add_sort {m : Nat} {l : List FogD} {x0 x : FogD} {o ys : List FogD} {j : Nat} (h : FogsOk m l) (hx0 : FogOk m x0) (hs : ad x0 l = (x, o, j)) (hp : ys.Perm (o ++ [x])) (hy : ∀ (i j : Nat) (x y : FogD), i < j → ys[i]? = some x → ys[j]? = some y → ¬ fgCmp y x < 0) : ys = adR (ad x0 l) := by
  have hA := ad_ok h hx0 l.length (Nat.le_refl _)
  rw [List.take_length] at hA
  obtain ⟨p1, p2⟩ := hA.pairs
  refine sorted_one ?_ (List.Perm.trans hp ?_) hy
  · refine List.Pairwise.imp_of_mem (fun {a b} ha hb hab => fgLt_cmp (p2 a ha) hab) p1
  · rw [hs]; exact (adR_perm (x, o, j)).symm
/-- the second one tests what it has -/
theorem add_test {m : Nat} {l : List FogD} {x0 : FogD} (h : FogsOk m l) (hx0 : FogOk m x0) : FogsOk m (adR (ad x0 l)) ↔ (ad x0 l).2.1.length + 1 ≤ 60 := by
  have hA := ad_ok h hx0 l.length (Nat.le_refl _)
  rw [List.take_length] at hA
  obtain ⟨p1, p2⟩ := hA.pairs
  rw [fogsOk_of p1 p2, adR_len]
end Go.Proofs.Ythagdkmalchhgaa
