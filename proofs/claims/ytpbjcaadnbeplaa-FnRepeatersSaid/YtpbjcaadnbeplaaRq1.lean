/- Repeaters: plain facts. Condition: none. -/
import Derived.Test.YtpbjcaadnbeplaaRp7
namespace Go.Proofs.Ytpbjcaadnbeplaa
open Go.Vc
set_option linter.all false

theorem gl_ok {r : RepP} {g : GlanceD} (h : RepOk r) (hl : (gl r g).1.passed.length ≤ 80) : RepOk (gl r g).1 := by
  obtain ⟨h1, h2, h3⟩ := h
  unfold RepOk
  refine ⟨hl, ?_⟩
  clear hl
  obtain ⟨ph, ho, ag, sh, ps⟩ := r
  simp only [RepTail] at h3
  have no61 : ph ≠ 3 → ∀ ph' : Int, PassedOk ph' ps ps.length := by
    intro hp ph' i x hi hx
    have := h2 i x hi hx
    exact ⟨this.1, fun e => absurd (this.2 e).1 hp⟩
  unfold gl
  split
  · rename_i c
    exact ⟨no61 (by have := c.1; simp only at this; omega) 1, .inr (.inl ⟨rfl, c.2.2, rfl, by simp⟩)⟩
  split
  · rename_i c; have := c.1; simp only at this h2 ⊢
    refine ⟨h2, .inl ⟨this, (by show ho = 0; omega), (by show ag = 0; omega), .inl rfl⟩⟩
  split
  · rename_i c; have := c.1; simp only at this h2 ⊢
    refine ⟨h2, .inl ⟨this, (by show ho = 0; omega), (by show ag = 0; omega), .inr rfl⟩⟩
  split
  · rename_i c; have := c.1; simp only at this ⊢
    exact ⟨no61 (by omega) 0, .inl ⟨rfl, rfl, rfl, .inl rfl⟩⟩
  split
  · rename_i c
    have c1 := c.1
    simp only at c1 h3 ⊢
    have hpo : PassOk ho := by rcases h3 with h | h | h | h <;> first | exact h.2.1 | omega
    have n61 := no61 (by omega)
    refine ⟨fun i x hi hx => ?_, ?_⟩
    · rw [List.length_append] at hi ⊢
      simp only [List.length_cons, List.length_nil] at hi ⊢
      by_cases e : i < ps.length
      · rw [List.getElem?_append_left e] at hx
        have := n61 3 i x e hx
        refine ⟨this.1, fun e61 => ?_⟩
        have := (h2 i x e hx).2 e61
        simp only at this; omega
      · have e2 : i = ps.length := by omega
        subst e2
        rw [List.getElem?_append_right (Nat.le_refl _)] at hx
        simp at hx
        subst hx
        exact ⟨hpo, fun e61 => ⟨by rw [if_pos e61], rfl⟩⟩
    · by_cases e61 : ho = 61
      · rw [if_pos e61]
        refine .inr (.inr (.inr ⟨rfl, rfl, rfl, rfl, by simp, ?_⟩))
        simp [e61]
      · rw [if_neg e61]
        exact .inl ⟨rfl, rfl, rfl, .inl rfl⟩
  split
  · rename_i c
    have c1 := c.1
    simp only at c1 h3
    have h4 : PassOk ho ∧ sh = ho ∧ 0 ≤ ag ∧ ag ≤ 3 := by rcases h3 with h | h | h | h <;> first | exact h.2 | omega
    split
    · rename_i c2
      simp only at c2 ⊢
      exact ⟨no61 (by omega) 2, .inr (.inr (.inl ⟨rfl, h4.1, c2, rfl⟩))⟩
    · rename_i c2
      simp only at c2 h2 ⊢
      exact ⟨h2, .inr (.inl ⟨c1, h4.1, h4.2.1, (by show 0 ≤ ag + 1; omega), (by show ag + 1 ≤ 3; omega)⟩)⟩
  · exact ⟨h2, h3⟩
theorem run_ok {r : RepP} (h : RepOk r) (l : List GlanceD) (hl : (run r l).passed.length ≤ 80) : RepOk (run r l) := by
  induction l generalizing r with
  | nil => exact h
  | cons g l ih =>
    have e : run r (g :: l) = run (gl r g).1 l := rfl
    rw [e] at hl ⊢
    have := run_mono (gl r g).1 l 0
    simp only [List.take_zero, run, List.foldl_nil] at this
    exact ih (gl_ok h (by unfold run at hl; omega)) hl
theorem rg_good {r : RepP} {l : List GlanceD} (h : (rgOut r l).2 = true) : RepOk r ∧ GlOk l ∧ (run r l).passed.length ≤ 80 ∧ (rgOut r l).1 = run r l := by
  unfold rgOut at h
  split at h
  · rename_i c; exact ⟨c.1, c.2.1, c.2.2, by rw [rgOut, if_pos c]⟩
  · cases h
theorem rg_rep {r : RepP} {l : List GlanceD} (h : (rgOut r l).2 = true) : RepOk (rgOut r l).1 := by
  obtain ⟨h1, h2, h3, h4⟩ := rg_good h
  rw [h4]; exact run_ok h1 l h3
/-- one glance -/
theorem rg_step {r : RepP} {g : GlanceD} (h : (rgOut r [g]).2 = true) : RepOk (rgOut r [g]).1 ∧ r.passed.length ≤ (rgOut r [g]).1.passed.length ∧ (rgOut r [g]).1.passed.length ≤ r.passed.length + 1 ∧ (rgOut r [g]).1.passed.take r.passed.length = r.passed ∧
    ((rgOut r [g]).1.passed.length = r.passed.length + 1 → g.next = true ∧ g.signal = r.holds ∧ (rgOut r [g]).1.passed[r.passed.length]? = some r.holds) := by
  refine ⟨rg_rep h, ?_⟩
  rw [(rg_good h).2.2.2]
  have e : run r [g] = (gl r g).1 := rfl
  rw [e]
  have hl := gl_len r g
  refine ⟨hl.1, hl.2, ?_, ?_⟩
  · unfold gl
    repeat' split
    all_goals simp
  · unfold gl
    split
    · intro hc; simp at hc
    split
    · intro hc; simp at hc
    split
    · intro hc; simp at hc
    split
    · intro hc; simp at hc
    split
    · rename_i c; intro _; exact ⟨c.2.1, c.2.2, by simp⟩
    split
    · split <;> (intro hc; simp at hc)
    · intro hc; simp at hc

/-- plain glances -/
theorem run_app (r : RepP) (a b : List GlanceD) : run r (a ++ b) = run (run r a) b := by simp [run]
theorem pg_two {r : RepP} {n : Int} (hr : r.phase = 0 ∧ r.holds = 0 ∧ r.again = 0 ∧ r.shown = 0) (hn : PassOk n) : run r [⟨false, n⟩, ⟨true, n⟩] = ⟨if n = 61 then 3 else 0, 0, 0, 0, r.passed ++ [n]⟩ := by
  obtain ⟨ph, ho, ag, sh, ps⟩ := r
  obtain ⟨rfl, rfl, rfl, rfl⟩ := hr
  have e1 : (gl ⟨0, 0, 0, 0, ps⟩ ⟨false, n⟩).1 = ⟨1, n, 0, n, ps⟩ := by
    unfold gl; rw [if_pos ⟨rfl, rfl, hn⟩]
  have e2 : (gl ⟨1, n, 0, n, ps⟩ ⟨true, n⟩).1 = ⟨if n = 61 then 3 else 0, 0, 0, 0, ps ++ [n]⟩ := by
    unfold gl
    rw [if_neg (by simp), if_neg (by simp), if_neg (by simp), if_neg (by simp), if_pos (by simp)]
  show (gl (gl ⟨0, 0, 0, 0, ps⟩ ⟨false, n⟩).1 ⟨true, n⟩).1 = _
  rw [e1, e2]
theorem pg_done (r : RepP) (h : r.phase = 3) (l : List GlanceD) : run r l = r := by
  induction l generalizing r with
  | nil => rfl
  | cons g l ih =>
    have e : (gl r g).1 = r := by
      unfold gl
      rw [if_neg (by omega), if_neg (by omega), if_neg (by omega), if_neg (by omega), if_neg (by omega), if_neg (by omega)]
    show run (gl r g).1 l = r
    rw [e]; exact ih r h
theorem pg_app (a b : List Int) : pgList (a ++ b) = pgList a ++ pgList b := by simp [pgList]
theorem pg_plain (ps : List Int) : ∀ (sg : List Int), (∀ x ∈ sg, PassOk x ∧ x ≠ 61) → run ⟨0, 0, 0, 0, ps⟩ (pgList sg) = ⟨0, 0, 0, 0, ps ++ sg⟩
  | [], _ => by simp [pgList, run]
  | n :: sg, h => by
    have hn := h n (List.mem_cons_self ..)
    have e : pgList (n :: sg) = [⟨false, n⟩, ⟨true, n⟩] ++ pgList sg := by simp [pgList]
    rw [e, run_app, pg_two ⟨rfl, rfl, rfl, rfl⟩ hn.1, if_neg hn.2, pg_plain (ps ++ [n]) sg fun x hx => h x (List.mem_cons_of_mem _ hx)]
    simp
theorem pg_end {sg : List Int} {e : Nat} (h : ∀ x ∈ sg, PassOk x) (he : sg[e]? = some 61) (hb : ∀ x ∈ sg.take e, x ≠ 61) : run rz (pgList sg) = ⟨3, 0, 0, 0, sg.take (e + 1)⟩ := by
  have el := (List.getElem?_eq_some_iff.1 he).1
  have s : sg = sg.take e ++ ([61] ++ sg.drop (e + 1)) := by
    have : sg = sg.take (e + 1) ++ sg.drop (e + 1) := (List.take_append_drop _ _).symm
    rw [snoc_get he, List.append_assoc] at this
    exact this
  have e1 : run rz (pgList (sg.take e)) = ⟨0, 0, 0, 0, [] ++ sg.take e⟩ := pg_plain [] _ fun x hx => ⟨h x (List.mem_of_mem_take hx), hb x hx⟩
  have e2 : pgList sg = pgList (sg.take e) ++ (pgList [61] ++ pgList (sg.drop (e + 1))) := by rw [← pg_app, ← pg_app, ← s]
  rw [e2, run_app, e1, run_app]
  have e3 : pgList [61] = [⟨false, 61⟩, ⟨true, 61⟩] := rfl
  rw [e3, pg_two ⟨rfl, rfl, rfl, rfl⟩ (.inr rfl), if_pos rfl, pg_done _ rfl, snoc_get he]
  simp
theorem rz_ok : RepOk rz := ⟨by simp, fun i x hi => by simp at hi, .inl ⟨rfl, rfl, rfl, .inl rfl⟩⟩
theorem pg_glok {sg : List Int} (h1 : sg.length ≤ 40) (h2 : ∀ x ∈ sg, PassOk x) : GlOk (pgList sg) := by
  refine ⟨by rw [pgList_len]; omega, fun g hg => ?_⟩
  unfold pgList at hg
  obtain ⟨n, hn, hg⟩ := List.mem_flatMap.1 hg
  have := h2 n hn
  simp at hg
  rcases hg with rfl | rfl <;> simp only <;> omega
theorem pb_is {l : List GlanceD} (h : GlOk l) : pbOut l = ((run rz l).passed, (run rz l).phase, true) := by
  have hl := run_len rz l
  have : (run rz l).passed.length ≤ 80 := by have := h.1; simp at hl; omega
  have e : rgOut rz l = (run rz l, true) := by rw [rgOut, if_pos ⟨rz_ok, h, this⟩]
  rw [pbOut, e]
/-- the first end -/
abbrev EndAt (sg : List Int) (k : Nat) (e : Int) : Prop := (e = -1 ∧ ∀ x ∈ sg.take k, x ≠ 61) ∨ (0 ≤ e ∧ e.toNat < k ∧ sg[e.toNat]? = some 61 ∧ ∀ x ∈ sg.take e.toNat, x ≠ 61)
theorem end_no {sg : List Int} {k : Nat} {e x : Int} (h : EndAt sg k e) (hx : sg[k]? = some x) (hn : ¬ x = 61 ∨ ¬ e < 0) : EndAt sg (k + 1) e := by
  rcases h with ⟨rfl, h⟩ | ⟨h1, h2, h3, h4⟩
  · have hx61 : x ≠ 61 := by omega
    refine .inl ⟨rfl, ?_⟩
    rw [snoc_get hx]
    intro y hy
    rcases List.mem_append.1 hy with hy | hy
    · exact h y hy
    · obtain rfl := List.mem_singleton.1 hy; exact hx61
  · exact .inr ⟨h1, by omega, h3, h4⟩
theorem end_yes {sg : List Int} {k : Nat} {e x : Int} (h : EndAt sg k e) (hx : sg[k]? = some x) (hn : x = 61) (he : e < 0) : EndAt sg (k + 1) (k : Int) := by
  rcases h with ⟨rfl, h⟩ | ⟨h1, h2, h3, h4⟩
  · exact .inr ⟨by omega, by omega, by rw [Int.toNat_natCast, hx, hn], by rw [Int.toNat_natCast]; exact h⟩
  · omega
theorem pg_facts {sg : List Int} (h : (pgOut sg).2 = true) : (pgOut sg).1 = pgList sg ∧ (pgOut sg).1.length = 2 * sg.length ∧ sg.length ≤ 40 ∧ (pbOut (pgOut sg).1).2.2 = true ∧ ∀ e, EndAt sg sg.length e →
    (e < 0 → (pbOut (pgOut sg).1).1 = sg ∧ (pbOut (pgOut sg).1).2.1 = 0) ∧ (0 ≤ e → (pbOut (pgOut sg).1).1 = sg.take (e + 1).toNat ∧ (pbOut (pgOut sg).1).2.1 = 3 ∧ e < sg.length) := by
  unfold pgOut at h
  split at h
  · rename_i c
    have e1 : (pgOut sg).1 = pgList sg := by rw [pgOut, if_pos c]
    rw [e1, pb_is (pg_glok c.1 c.2)]
    refine ⟨rfl, pgList_len sg, c.1, rfl, fun e he => ⟨fun hl => ?_, fun hl => ?_⟩⟩
    · rcases he with ⟨_, hn⟩ | ⟨h0, _⟩
      · rw [List.take_length] at hn
        have := pg_plain [] sg fun x hx => ⟨c.2 x hx, hn x hx⟩
        rw [show rz = ⟨0, 0, 0, 0, []⟩ from rfl, this]; simp
      · omega
    · rcases he with ⟨rfl, _⟩ | ⟨h0, h1, h2, h3⟩
      · omega
      · rw [pg_end c.2 h2 h3]
        have e1 : (e + 1).toNat = e.toNat + 1 := by omega
        rw [e1]
        exact ⟨rfl, rfl, by omega⟩
  · cases h

theorem q_step {α : Type} {a b : List α} {k : Nat} {x y : α} (h : a.take k = b.take k) (hx : a[k]? = some x) (hy : b[k]? = some y) (e : x = y) : a.take (k + 1) = b.take (k + 1) := by
  rw [List.take_add_one, List.take_add_one, h, hx, hy, e]
theorem q_done {α : Type} {a b : List α} {k : Nat} (h : a.take k = b.take k) (hk : ¬ (k : Int) < (a.length : Int)) (hl : (a.length : Int) = (b.length : Int)) : a = b := by
  rw [List.take_of_length_le (by omega), List.take_of_length_le (by omega)] at h; exact h
theorem q_ne {α : Type} {a b : List α} {k : Nat} {x y : α} (hx : a[k]? = some x) (hy : b[k]? = some y) (h : ¬ x = y) : a ≠ b := fun e => by
  subst e; rw [hx] at hy; exact h (Option.some.inj hy)
theorem g_ext {x y : GlanceD} (h : x.next = y.next ∧ x.signal = y.signal) : x = y := by
  cases x; cases y; simp only at h; obtain ⟨rfl, rfl⟩ := h; rfl
theorem now_ok {r q : RepP} {l : List GlanceD} {k : Nat} {x : GlanceD} (h1 : RepOk r) (h2 : GlOk l) (h3 : (run r l).passed.length ≤ 80) (hx : l[k]? = some x) (hq : q = run r (l.take k)) : rgOut q [x] = ((gl q x).1, true) := by
  have hs := run_step hx hq
  refine rg_one ?_ (h2.2 x (List.mem_of_getElem? hx)) ?_
  · rw [hq]; exact run_ok h1 _ (Nat.le_trans (run_mono r l k) h3)
  · rw [hs]; exact Nat.le_trans (run_mono r l (k + 1)) h3
theorem same_of {r q : RepP} {l : List GlanceD} {k : Nat} (h4 : (rgOut r l).1 = run r l) (hq : q = run r (l.take k)) (hk : ¬ (k : Int) < (l.length : Int)) : q.same (rgOut r l).1 := by
  rw [h4, hq, take_all hk]; exact ⟨rfl, rfl, rfl, rfl, rfl⟩
theorem end_all {sg : List Int} {k : Nat} {e : Int} (h : EndAt sg k e) (hk : k ≤ sg.length) (hn : ¬ (k : Int) < (sg.length : Int)) : EndAt sg sg.length e := by
  have e2 : k = sg.length := by omega
  subst e2; exact h
theorem rep_refl (r : RepP) : r.same r := ⟨rfl, rfl, rfl, rfl, rfl⟩
end Go.Proofs.Ytpbjcaadnbeplaa

