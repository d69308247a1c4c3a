/- Repeaters: plain facts. Condition: none. -/
import Derived.Test.YtpbjcaadnbeplaaRp7
namespace Go.Proofs.Ytpbjcaadnbeplaa
open Go.Vc
set_option linter.all false

theorem gl_ok {r : RepP} {g : GlanceD} (h : RepOk r) (hl : (gl r g).1.passed.length ≤ 80) : RepOk (gl r g).1 := by
  obtain ⟨h1, h2, h3⟩ := h
  unfold RepOk
  refine ⟨hl, ?_⟩
  clear hl
  obtain ⟨ph, ho, ag, sh, ps⟩ := r
  simp only [RepTail] at h3
  have no61 : ph ≠ 3 → ∀ ph' : Int, PassedOk ph' ps ps.length := by
    intro hp ph' i x hi hx
    have := h2 i x hi hx
    exact ⟨this.1, fun e => absurd (this.2 e).1 hp⟩
  unfold gl
  split
  · rename_i c
    exact ⟨no61 (by have := c.1; simp only at this; omega) 1, .inr (.inl ⟨rfl, c.2.2, rfl, by simp⟩)⟩
  split
  · rename_i c; have := c.1; simp only at this h2 ⊢
    refine ⟨h2, .inl ⟨this, (by show ho = 0; omega), (by show ag = 0; omega), .inl rfl⟩⟩
  split
  · rename_i c; have := c.1; simp only at this h2 ⊢
    refine ⟨h2, .inl ⟨this, (by show ho = 0; omega), (by show ag = 0; omega), .inr rfl⟩⟩
  split
  · rename_i c; have := c.1; simp only at this ⊢
    exact ⟨no61 (by omega) 0, .inl ⟨rfl, rfl, rfl, .inl rfl⟩⟩
  split
  · rename_i c
    have c1 := c.1
    simp only at c1 h3 ⊢
    have hpo : PassOk ho := by rcases h3 with h | h | h | h <;> first | exact h.2.1 | omega
    have n61 := no61 (by omega)
    refine ⟨fun i x hi hx => ?_, ?_⟩
    · rw [List.length_append] at hi ⊢
      simp only [List.length_cons, List.length_nil] at hi ⊢
      by_cases e : i < ps.length
      · rw [List.getElem?_append_left e] at hx
        have := n61 3 i x e hx
        refine ⟨this.1, fun e61 => ?_⟩
        have := (h2 i x e hx).2 e61
        simp only at this; omega
      · have e2 : i = ps.length := by omega
        subst e2
        rw [List.getElem?_append_right (Nat.le_refl _)] at hx
        simp at hx
        subst hx
        exact ⟨hpo, fun e61 => ⟨by rw [if_pos e61], rfl⟩⟩
    · by_cases e61 : ho = 61
      · rw [if_pos e61]
        refine .inr (.inr (.inr ⟨rfl, rfl, rfl, rfl, by simp, ?_⟩))
        simp [e61]
      · rw [if_neg e61]
        exact .inl ⟨rfl, rfl, rfl, .inl rfl⟩
  split
  · rename_i c
    have c1 := c.1
    simp only at c1 h3
    have h4 : PassOk ho ∧ sh = ho ∧ 0 ≤ ag ∧ ag ≤ 3 := by rcases h3 with h | h | h | h <;> first | exact h.2 | omega
    split
    · rename_i c2
      simp only at c2 ⊢
      exact ⟨no61 (by omega) 2, .inr (.inr (.inl ⟨rfl, h4.1, c2, rfl⟩))⟩
    · rename_i c2
      simp only at c2 h2 ⊢
      exact ⟨h2, .inr (.inl ⟨c1, h4.1, h4.2.1, (by show 0 ≤ ag + 1; omega), (by show ag + 1 ≤ 3; omega)⟩)⟩
  · exact ⟨h2, h3⟩
theorem run_ok {r : RepP} (h : RepOk r) (l : List GlanceD) (hl : (run r l).passed.length ≤ 80) : RepOk (run r l) := by
  induction l generalizing r with
  | nil => exact h
  | cons g l ih =>
    have e : run r (g :: l) = run (gl r g).1 l := rfl
    rw [e] at hl ⊢
    have := run_mono (gl r g).1 l 0
    simp only [List.take_zero, run, List.foldl_nil] at this
    exact ih (gl_ok h (by unfold run at hl; omega)) hl
theorem rg_good {r : RepP} {l : List GlanceD} (h : (rgOut r l).2 = true) : RepOk r ∧ GlOk l ∧ (run r l).passed.length ≤ 80 ∧ (rgOut r l).1 = run r l := by
  unfold rgOut at h
  split at h
  · rename_i c; exact ⟨c.1, c.2.1, c.2.2, by rw [rgOut, if_pos c]⟩
  · cases h
theorem rg_rep {r : RepP} {l : List GlanceD} (h : (rgOut r l).2 = true) : RepOk (rgOut r l).1 := by
  obtain ⟨h1, h2, h3, h4⟩ := rg_good h
  rw [h4]; exact run_ok h1 l h3
/-- one glance -/
theorem rg_step {r : RepP} {g : GlanceD} (h : (rgOut r [g]).2 = true) : RepOk (rgOut r [g]).1 ∧ r.passed.length ≤ (rgOut r [g]).1.passed.length ∧ (rgOut r [g]).1.passed.length ≤ r.passed.length + 1 ∧ (rgOut r [g]).1.passed.take r.passed.length = r.passed ∧
    ((rgOut r [g]).1.passed.length = r.passed.length + 1 → g.next = true ∧ g.signal = r.holds ∧ (rgOut r [g]).1.passed[r.passed.length]? = some r.holds) := by
  refine ⟨rg_rep h, ?_⟩
  rw [(rg_good h).2.2.2]
  have e : run r [g] = (gl r g).1 := rfl
  rw [e]
  have hl := gl_len r g
  refine ⟨hl.1, hl.2, ?_, ?_⟩
  · unfold gl
    repeat' split
    all_goals simp
  · unfold gl
    split
    · intro hc; simp at hc
    split
    · intro hc; simp at hc
    split
    · intro hc; simp at hc
    split
    · intro hc; simp at hc
    split
    · rename_i c; intro _; exact ⟨c.2.1, c.2.2, by simp⟩
    split
    · split <;> (intro hc; simp at hc)
    · intro hc; simp at hc

/-- plain glances -/
theorem run_app (r : RepP) (a b : List GlanceD) : run r (a ++ b) = run (run r a) b := by simp [run]
theorem pg_two {r : RepP} {n : Int} (hr : r.phase = 0 ∧ r.holds = 0 ∧ r.again = 0 ∧ r.shown = 0) (hn : PassOk n) : run r [⟨false, n⟩, ⟨true, n⟩] = ⟨if n = 61 then 3 else 0, 0, 0, 0, r.passed ++ [n]⟩ := by
  obtain ⟨ph, ho, ag, sh, ps⟩ := r
  obtain ⟨rfl, rfl, rfl, rfl⟩ := hr
  have e1 : (gl ⟨0, 0, 0, 0, ps⟩ ⟨false, n⟩).1 = ⟨1, n, 0, n, ps⟩ := by
    unfold gl; rw [if_pos ⟨rfl, rfl, hn⟩]
  have e2 : (gl ⟨1, n, 0, n, ps⟩ ⟨true, n⟩).1 = ⟨if n = 61 then 3 else 0, 0, 0, 0, ps ++ [n]⟩ := by
    unfold gl
    rw [if_neg (by simp), if_neg (by simp), if_neg (by simp), if_neg (by simp), if_pos (by simp)]
  show (gl (gl ⟨0, 0, 0, 0, ps⟩ ⟨false, n⟩).1 ⟨true, n⟩).1 = _
  rw [e1, e2]
theorem pg_done (r : RepP) (h : r.phase = 3) (l : List GlanceD) : run r l = r := by
  induction l generalizing r with
  | nil => rfl
  | cons g l ih =>
    have e : (gl r g).1 = r := by
      unfold gl
      rw [if_neg (by omega), if_neg (by omega), if_neg (by omega), if_neg (by omega), if_neg (by omega), if_neg (by omega)]
    show run (gl r g).1 l = r
    rw [e]; exact ih r h
theorem pg_app (a b : List Int) : pgList (a ++ b) = pgList a ++ pgList b := by simp [pgList]
theorem pg_plain (ps : List Int) : ∀ (sg : List Int), (∀ x ∈ sg, PassOk x ∧ x ≠ 61) → run ⟨0, 0, 0, 0, ps⟩ (pgList sg) = ⟨0, 0, 0, 0, ps ++ sg⟩
  | [], _ => by simp [pgList, run]
  | n :: sg, h => by
    have hn := h n (List.mem_cons_self ..)
    have e : pgList (n :: sg) = [⟨false, n⟩, ⟨true, n⟩] ++ pgList sg := by simp [pgList]
    rw [e, run_app, pg_two ⟨rfl, rfl, rfl, rfl⟩ hn.1, if_neg hn.2, pg_plain (ps ++ [n]) sg fun x hx => h x (List.mem_cons_of_mem _ hx)]
    simp
theorem pg_end {sg : List Int} {e : Nat} (h : ∀ x ∈ sg, PassOk x) (he : sg[e]? = some 61) (hb : ∀ x ∈ sg.take e, x ≠ 61) : run rz (pgList sg) = ⟨3, 0, 0, 0, sg.take (e + 1)⟩ := by
  have el := (List.getElem?_eq_some_iff.1 he).1
  have s : sg = sg.take e ++ ([61] ++ sg.drop (e + 1)) := by
    have : sg = sg.take (e + 1) ++ sg.drop (e + 1) := (List.take_append_drop _ _).symm
    rw [snoc_get he, List.append_assoc] at this
    exact this
  have e1 : run rz (pgList (sg.take e)) = ⟨0, 0, 0, 0, [] ++ sg.take e⟩ := pg_plain [] _ fun x hx => ⟨h x (List.mem_of_mem_take hx), hb x hx⟩
  have e2 : pgList sg = pgList (sg.take e) ++ (pgList [61] ++ pgList (sg.drop (e + 1))) := by rw [← pg_app, ← pg_app, ← s]
  rw [e2, run_app, e1, run_app]
  have e3 : pgList [61] = [⟨false, 61⟩, ⟨true, 61⟩] := rfl
  rw [e3, pg_two ⟨rfl, rfl, rfl, rfl⟩ (.inr rfl), if_pos rfl, pg_done _ rfl, snoc_get he]
  simp
theorem rz_ok : RepOk rz := ⟨by simp, fun i x hi => by simp at hi, .inl ⟨rfl, rfl, rfl, .inl rfl⟩⟩
theorem pg_glok {sg : List Int} (h1 : sg.length ≤ 40) (h2 : ∀ x ∈ sg, PassOk x) : GlOk (pgList sg) := by
  refine ⟨by rw [pgList_len]; omega, fun g hg => ?_⟩
  unfold pgList at hg
  obtain ⟨n, hn, hg⟩ := List.mem_flatMap.1 hg
  have := h2 n hn
  simp at hg
  rcases hg with rfl | rfl <;> simp only <;> omega
theorem pb_is {l : List GlanceD} (h : GlOk l) : pbOut l = ((run rz l).passed, (run rz l).phase, true) := by
  have hl := run_len rz l
  have : (run rz l).passed.length ≤ 80 := by have := h.1; simp at hl; omega
  have e : rgOut rz l = (run rz l, true) := by rw [rgOut, if_pos ⟨rz_ok, h, this⟩]
  rw [pbOut, e]
/-- the first end -/
abbrev EndAt (sg : List Int) (k : Nat) (e : Int) : Prop := (e = -1 ∧ ∀ x ∈ sg.take k, x ≠ 61) ∨ (0 ≤ e ∧ e.toNat < k ∧ sg[e.toNat]? = some 61 ∧ ∀ x ∈ sg.take e.toNat, x ≠ 61)
theorem end_no {sg : List Int} {k : Nat} {e x : Int} (h : EndAt sg k e) (hx : sg[k]? = some x) (hn : ¬ x = 61 ∨ ¬ e < 0) : EndAt sg (k + 1) e := by
  rcases h with ⟨rfl, h⟩ | ⟨h1, h2, h3, h4⟩
  · have hx61 : x ≠ 61 := by omega
    refine .inl ⟨rfl, ?_⟩
    rw [snoc_get hx]
    intro y hy
    rcases List.mem_append.1 hy with hy | hy
    · exact h y hy
    · obtain rfl := List.mem_singleton.1 hy; exact hx61
  · exact .inr ⟨h1, by omega, h3, h4⟩
theorem end_yes {sg : List Int} {k : Nat} {e x : Int} (h : EndAt sg k e) (hx : sg[k]? = some x) (hn : x = 61) (he : e < 0) : EndAt sg (k + 1) (k : Int) := by
  rcases h with ⟨rfl, h⟩ | ⟨h1, h2, h3, h4⟩
  · exact .inr ⟨by omega, by omega, by rw [Int.toNat_natCast, hx, hn], by rw [Int.toNat_natCast]; exact h⟩
  · omega
theorem pg_facts {sg : List Int} (h : (pgOut sg).2 = true) : (pgOut sg).1 = pgList sg ∧ (pgOut sg).1.length = 2 * sg.length ∧ sg.length ≤ 40 ∧ (pbOut (pgOut sg).1).2.2 = true ∧ ∀ e, EndAt sg sg.length e →
    (e < 0 → (pbOut (pgOut sg).1).1 = sg ∧ (pbOut (pgOut sg).1).2.1 = 0) ∧ (0 ≤ e → (pbOut (pgOut sg).1).1 = sg.take (e + 1).toNat ∧ (pbOut (pgOut sg).1).2.1 = 3 ∧ e < sg.length) := by
  unfold pgOut at h
  split at h
  · rename_i c
    have e1 : (pgOut sg).1 = pgList sg := by rw [pgOut, if_pos c]
    rw [e1, pb_is (pg_glok c.1 c.2)]
    refine ⟨rfl, pgList_len sg, c.1, rfl, fun e he => ⟨fun hl => ?_, fun hl => ?_⟩⟩
    · rcases he with ⟨_, hn⟩ | ⟨h0, _⟩
      · rw [List.take_length] at hn
        have := pg_plain [] sg fun x hx => ⟨c.2 x hx, hn x hx⟩
        rw [show rz = ⟨0, 0, 0, 0, []⟩ from rfl, this]; simp
      · omega
    · rcases he with ⟨rfl, _⟩ | ⟨h0, h1, h2, h3⟩
      · omega
      · rw [pg_end c.2 h2 h3]
        have e1 : (e + 1).toNat = e.toNat + 1 := by omega
        rw [e1]
        exact ⟨rfl, rfl, by omega⟩
  · cases h

/-- what is useful -/
theorem useful_in {r0 : RepP} {xs : List GlanceD} : ∀ x ∈ useful r0 xs, 0 ≤ x ∧ x.toNat < xs.length := by
  intro x hx
  unfold useful at hx
  obtain ⟨i, hi, rfl⟩ := List.mem_map.1 hx
  have := List.mem_range.1 (List.mem_filter.1 hi).1
  omega
theorem chg_no {r : RepP} {g : GlanceD} (h : ¬ chg (gl r g).1 r = true) : (gl r g).1 = r := by
  have := Classical.not_not.1 (fun hc => h (gl_same.2 hc))
  obtain ⟨h1, h2, h3, h4, h5⟩ := this
  generalize (gl r g).1 = q at h1 h2 h3 h4 h5
  cases q; cases r
  simp only at h1 h2 h3 h4 h5
  subst h1; subst h2; subst h3; subst h4; subst h5; rfl
theorem wrong_chg {r : RepP} {g : GlanceD} (hi : RInv r) (h : (gl r g).2 = true) : chg (gl r g).1 r = true := by
  unfold gl at h ⊢
  split at h
  · cases h
  rename_i c1
  rw [if_neg c1]
  split at h
  · cases h
  rename_i c2
  rw [if_neg c2]
  split at h
  · cases h
  rename_i c3
  rw [if_neg c3]
  split at h
  · cases h
  rename_i c4
  rw [if_neg c4]
  split at h
  · cases h
  rename_i c5
  rw [if_neg c5]
  split at h
  · rename_i c6
    rw [if_pos c6]
    split
    · have := c6.1; simp [chg, this]
    · simp [chg]; omega
  · cases h
abbrev lessL (r0 : RepP) (xs : List GlanceD) : List GlanceD := (useful r0 xs).map fun i => xs.getD i.toNat ⟨false, 0⟩
theorem lessL_take {r0 : RepP} {xs : List GlanceD} {k : Nat} (hk : k ≤ xs.length) : lessL r0 (xs.take k) = (useful r0 (xs.take k)).map fun i => xs.getD i.toNat ⟨false, 0⟩ := by
  unfold lessL
  refine List.map_congr_left fun x hx => ?_
  have := useful_in x hx
  rw [List.length_take] at this
  rw [List.getD_eq_getElem?_getD, List.getD_eq_getElem?_getD, take_get (by omega)]
theorem wrongs_app (r0 : RepP) (xs : List GlanceD) (x : GlanceD) : wrongs r0 (xs ++ [x]) = wrongs r0 xs + if (gl (run r0 xs) x).2 then 1 else 0 := by
  have := wrongs_snoc r0 (xs := xs ++ [x]) (k := xs.length) (x := x) (by simp)
  rw [List.take_left, List.take_of_length_le (l := xs ++ [x]) (i := xs.length + 1) (by simp)] at this
  exact this
theorem less_all {r0 : RepP} (hr : RInv r0) {xs : List GlanceD} : ∀ k, k ≤ xs.length → run r0 (lessL r0 (xs.take k)) = run r0 (xs.take k) ∧ wrongs r0 (lessL r0 (xs.take k)) = wrongs r0 (xs.take k) ∧ wrongs r0 (xs.take k) ≤ (useful r0 (xs.take k)).length ∧ (∀ g ∈ lessL r0 (xs.take k), g ∈ xs)
  | 0, _ => by simp [lessL, useful, wrongs]
  | k + 1, hk => by
    have hkl : k < xs.length := by omega
    obtain ⟨h1, h2, h3, h4⟩ := less_all hr (xs := xs) k (by omega)
    obtain ⟨x, hx⟩ : ∃ x, xs[k]? = some x := ⟨_, List.getElem?_eq_getElem hkl⟩
    have hu := useful_snoc r0 hx
    have hw := wrongs_snoc r0 hx
    have hi := run_inv hr (xs.take k)
    have ek := lessL_take (r0 := r0) (xs := xs) (k := k) (by omega)
    have ek1 := lessL_take (r0 := r0) (xs := xs) (k := k + 1) (by omega)
    rw [ek] at h1 h2 h4
    rw [ek1]
    rw [hu, List.map_append, hw]
    have ers : run r0 (xs.take (k + 1)) = (gl (run r0 (xs.take k)) x).1 := by rw [snoc_get hx, run_snoc]
    rw [ers]
    by_cases c : chg (gl (run r0 (xs.take k)) x).1 (run r0 (xs.take k)) = true
    · rw [if_pos c]
      have e : (([(k : Int)] : List Int).map fun i => xs.getD i.toNat ⟨false, 0⟩) = [x] := by simp [List.getD_eq_getElem?_getD, hx]
      rw [e]
      refine ⟨by rw [run_snoc, h1], by rw [wrongs_app, h1, h2], ?_, ?_⟩
      · rw [List.length_append]
        simp only [List.length_cons, List.length_nil]
        split <;> omega
      · intro g hg
        rcases List.mem_append.1 hg with hg | hg
        · exact h4 g hg
        · obtain rfl := List.mem_singleton.1 hg; exact List.mem_of_getElem? hx
    · rw [if_neg c]
      simp only [List.map_nil, List.append_nil]
      have hg := chg_no c
      have hn : ¬ (gl (run r0 (xs.take k)) x).2 = true := fun hc => c (wrong_chg hi hc)
      refine ⟨by rw [h1, hg], by rw [h2, if_neg hn]; rfl, by rw [if_neg hn]; omega, h4⟩
theorem useful_mem {r0 : RepP} {xs : List GlanceD} {k : Nat} {x : GlanceD} (hx : xs[k]? = some x) (h : chg (gl (run r0 (xs.take k)) x).1 (run r0 (xs.take k)) = true) : (k : Int) ∈ useful r0 xs := by
  unfold useful
  refine List.mem_map.2 ⟨k, List.mem_filter.2 ⟨List.mem_range.2 (List.getElem?_eq_some_iff.1 hx).1, ?_⟩, rfl⟩
  rw [hx]; exact h
theorem shown_get {r0 : RepP} {xs : List GlanceD} {k : Nat} {n : Int} (h : (shown r0 xs)[k]? = some n) : n = (run r0 (xs.take (k + 1))).shown ∧ k < xs.length := by
  have hk := (List.getElem?_eq_some_iff.1 h).1
  rw [shown_len] at hk
  unfold shown at h
  rw [List.getElem?_map, List.getElem?_range hk] at h
  exact ⟨(Option.some.inj h).symm, hk⟩
theorem shown_useful {r0 : RepP} {xs : List GlanceD} {k : Nat} {n last : Int} (h : (shown r0 xs)[k]? = some n) (hl : last = (run r0 (xs.take k)).shown) (hn : n ≠ last) : (k : Int) ∈ useful r0 xs := by
  obtain ⟨h1, h2⟩ := shown_get h
  obtain ⟨x, hx⟩ : ∃ x, xs[k]? = some x := ⟨_, List.getElem?_eq_getElem h2⟩
  refine useful_mem hx ?_
  rw [snoc_get hx, run_snoc] at h1
  subst h1; subst hl
  simp only [chg, Bool.or_eq_true, bne_iff_ne]
  exact .inl (.inr hn)
theorem ug_facts {l : List GlanceD} (h : (ugOut l).2 = true) : GlOk l ∧ (ugOut l).1 = useful rz l ∧ (saOut l).1 = shown rz l ∧ (saOut l).1.length = l.length ∧ (wsOut l).1 = (wrongs rz l : Int) ∧ (wsOut l).1 ≤ ((ugOut l).1.length : Int) ∧ (∀ x ∈ (ugOut l).1, 0 ≤ x ∧ x.toNat < l.length) ∧ (ugOut l).1.length ≤ 80 ∧
    ∀ q : List GlanceD, q = lessL rz l → (pbOut q).2.2 = true ∧ (pbOut q).1 = (pbOut l).1 ∧ (pbOut q).2.1 = (pbOut l).2.1 ∧ (wsOut q).2 = true ∧ (wsOut q).1 = (wsOut l).1 := by
  unfold ugOut at h
  split at h
  · rename_i c
    have e1 : (ugOut l).1 = useful rz l := by rw [ugOut, if_pos c]
    have e2 : (saOut l).1 = shown rz l := by rw [saOut, if_pos c]
    have e3 : (wsOut l).1 = (wrongs rz l : Int) := by rw [wsOut, if_pos c]
    obtain ⟨a1, a2, a3, a4⟩ := less_all (r0 := rz) RInv.zero (xs := l) l.length (Nat.le_refl _)
    rw [List.take_length] at a1 a2 a3 a4
    have hul := useful_len rz l
    rw [e1, e2, e3]
    refine ⟨c, rfl, rfl, shown_len _ _, rfl, by omega, useful_in, Nat.le_trans hul c.1, ?_⟩
    rintro q rfl
    have hq : GlOk (lessL rz l) := ⟨by unfold lessL; rw [List.length_map]; exact Nat.le_trans hul c.1, fun x hx => c.2 x (a4 x hx)⟩
    rw [pb_is hq, pb_is c, a1]
    have e4 : wsOut (lessL rz l) = ((wrongs rz (lessL rz l) : Int), true) := by rw [wsOut, if_pos hq]
    rw [e4, a2]
    exact ⟨rfl, rfl, rfl, rfl, rfl⟩
  · cases h
theorem oks (l : List GlanceD) : (pbOut l).2.2 = (ugOut l).2 ∧ (saOut l).2 = (ugOut l).2 ∧ (wsOut l).2 = (ugOut l).2 := by
  by_cases c : GlOk l
  · rw [pb_is c, saOut, wsOut, ugOut, if_pos c, if_pos c, if_pos c]; exact ⟨rfl, rfl, rfl⟩
  · have e : (rgOut rz l).2 = false := by rw [rg_no (.inr c)]
    rw [pbOut, saOut, wsOut, ugOut, if_neg c, if_neg c, if_neg c, e]; exact ⟨rfl, rfl, rfl⟩
theorem wm_facts {a : List GlanceD} {i s : Int} (h : (wmOut a i s).2 = true) : (0 ≤ i ∧ i.toNat < a.length ∧ a.length ≤ 80) ∧ (wmOut a i s).1.length = a.length ∧ ∀ x, a[i.toNat]? = some x → (wmOut a i s).1[i.toNat]? = some ⟨x.next, s⟩ ∧ wmOut (wmOut a i s).1 i x.signal = (a, true) := by
  unfold wmOut at h
  split at h
  · rename_i c
    have e : wmOut a i s = (a.set i.toNat ⟨(a.getD i.toNat ⟨false, 0⟩).next, s⟩, true) := by rw [wmOut, if_pos c]
    have hi : i.toNat < a.length := by have := c.2.1; omega
    rw [e]
    refine ⟨⟨c.2.1.1, hi, c.1.1⟩, by simp, fun x hx => ?_⟩
    have hg : a.getD i.toNat ⟨false, 0⟩ = x := by rw [List.getD_eq_getElem?_getD, hx]; rfl
    have hxs := c.1.2 x (List.mem_of_getElem? hx)
    rw [hg]
    refine ⟨by simp [hi], ?_⟩
    have ok : GlOk (a.set i.toNat ⟨x.next, s⟩) ∧ (0 ≤ i ∧ i ≤ ((a.set i.toNat ⟨x.next, s⟩).length : Int) - 1) ∧ 0 ≤ x.signal ∧ x.signal ≤ 63 := by
      refine ⟨⟨by rw [List.length_set]; exact c.1.1, fun g hg => ?_⟩, by rw [List.length_set]; exact c.2.1, hxs⟩
      rcases List.mem_or_eq_of_mem_set hg with hg | rfl
      · exact c.1.2 g hg
      · exact c.2.2
    simp only
    rw [wmOut, if_pos ok, List.set_set]
    have e2 : ((a.set i.toNat ⟨x.next, s⟩).getD i.toNat ⟨false, 0⟩).next = x.next := by rw [List.getD_eq_getElem?_getD, List.getElem?_set_self hi]; rfl
    rw [e2]
    have e3 : a.set i.toNat ⟨x.next, x.signal⟩ = a := by
      obtain ⟨hl, he⟩ := List.getElem?_eq_some_iff.1 hx
      rw [show (⟨x.next, x.signal⟩ : GlanceD) = a[i.toNat] by rw [he]]
      exact List.set_getElem_self hl
    rw [e3]
  · cases h
theorem q_step {α : Type} {a b : List α} {k : Nat} {x y : α} (h : a.take k = b.take k) (hx : a[k]? = some x) (hy : b[k]? = some y) (e : x = y) : a.take (k + 1) = b.take (k + 1) := by
  rw [List.take_add_one, List.take_add_one, h, hx, hy, e]
theorem q_done {α : Type} {a b : List α} {k : Nat} (h : a.take k = b.take k) (hk : ¬ (k : Int) < (a.length : Int)) (hl : (a.length : Int) = (b.length : Int)) : a = b := by
  rw [List.take_of_length_le (by omega), List.take_of_length_le (by omega)] at h; exact h
theorem q_ne {α : Type} {a b : List α} {k : Nat} {x y : α} (hx : a[k]? = some x) (hy : b[k]? = some y) (h : ¬ x = y) : a ≠ b := fun e => by
  subst e; rw [hx] at hy; exact h (Option.some.inj hy)
theorem g_ext {x y : GlanceD} (h : x.next = y.next ∧ x.signal = y.signal) : x = y := by
  cases x; cases y; simp only at h; obtain ⟨rfl, rfl⟩ := h; rfl
theorem now_ok {r q : RepP} {l : List GlanceD} {k : Nat} {x : GlanceD} (h1 : RepOk r) (h2 : GlOk l) (h3 : (run r l).passed.length ≤ 80) (hx : l[k]? = some x) (hq : q = run r (l.take k)) : rgOut q [x] = ((gl q x).1, true) := by
  have hs := run_step hx hq
  refine rg_one ?_ (h2.2 x (List.mem_of_getElem? hx)) ?_
  · rw [hq]; exact run_ok h1 _ (Nat.le_trans (run_mono r l k) h3)
  · rw [hs]; exact Nat.le_trans (run_mono r l (k + 1)) h3
theorem same_of {r q : RepP} {l : List GlanceD} {k : Nat} (h4 : (rgOut r l).1 = run r l) (hq : q = run r (l.take k)) (hk : ¬ (k : Int) < (l.length : Int)) : q.same (rgOut r l).1 := by
  rw [h4, hq, take_all hk]; exact ⟨rfl, rfl, rfl, rfl, rfl⟩
theorem less_step {u : List Int} {L ll : List GlanceD} {k : Nat} {x : Int} {y : GlanceD} (hll : ll = (u.take k).map fun i => L.getD i.toNat ⟨false, 0⟩) (hx : u[k]? = some x) (hy : L[x.toNat]? = some y) : ll ++ [⟨y.next, y.signal⟩] = (u.take (k + 1)).map fun i => L.getD i.toNat ⟨false, 0⟩ := by
  rw [snoc_get hx, List.map_append, ← hll]
  simp [List.getD_eq_getElem?_getD, hy]
theorem less_end {u : List Int} {L ll : List GlanceD} {k : Nat} (hu : u = useful rz L) (hll : ll = (u.take k).map fun i => L.getD i.toNat ⟨false, 0⟩) (hk : ¬ (k : Int) < (u.length : Int)) : ll = lessL rz L := by
  rw [hll, take_all hk, hu]
theorem end_all {sg : List Int} {k : Nat} {e : Int} (h : EndAt sg k e) (hk : k ≤ sg.length) (hn : ¬ (k : Int) < (sg.length : Int)) : EndAt sg sg.length e := by
  have e2 : k = sg.length := by omega
  subst e2; exact h
theorem wm_el {a : List GlanceD} {i s : Int} {x y : GlanceD} (h : (wmOut a i s).1[i.toNat]? = some ⟨x.next, s⟩) (hy : (wmOut a i s).1[i.toNat]? = some y) : y.next = x.next ∧ y.signal = s := by
  rw [h] at hy
  obtain rfl := Option.some.inj hy
  exact ⟨rfl, rfl⟩
theorem rep_refl (r : RepP) : r.same r := ⟨rfl, rfl, rfl, rfl, rfl⟩
end Go.Proofs.Ytpbjcaadnbeplaa
