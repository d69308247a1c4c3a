/- PutW, Fo5, Fo6, Fo7. Condition: none. -/
import Derived.Test.YtloicopmcagikaaStep2
import Derived.Test.YtloicopmcagikaaLib1
import Derived.Test.YtloicopmcagikaaMgG
import Derived.Test.YtloicopmcagikaaMgA
/- Putting a number into a row in order. Condition: none. -/
namespace Go.Proofs.Ytloicopmcagikaa
open Go.Vc
set_option linter.all false

def putW (l : List Int) (n : Int) : List Int := if l[(l.takeWhile (fun x => decide (x < n))).length]? = some n then l else l.take (l.takeWhile (fun x => decide (x < n))).length ++ [n] ++ l.drop (l.takeWhile (fun x => decide (x < n))).length
theorem tw_len {l : List Int} {n : Int} {k : Nat} (h : ∀ x ∈ l.take k, x < n) (hk : k ≤ l.length) (he : l.length ≤ k ∨ ∃ x, l[k]? = some x ∧ ¬ x < n) : (l.takeWhile (fun x => decide (x < n))).length = k := by
  induction l generalizing k with
  | nil => simp at hk ⊢; exact hk.symm
  | cons y l ih =>
    cases k with
    | zero =>
      rcases he with he | ⟨x, hx, hn⟩
      · simp at he
      · simp at hx; subst hx; simp [hn]
    | succ k =>
      have hy : y < n := h y (by simp)
      simp only [List.takeWhile_cons, hy, decide_true, if_true, List.length_cons]
      rw [ih (k := k) (fun x hx => h x (by simp only [List.take_succ_cons]; exact List.mem_cons_of_mem _ hx)) (by simpa using hk) (he.imp (by simp) (fun ⟨x, hx, hn⟩ => ⟨x, by simpa using hx, hn⟩))]
theorem all_lt_snoc {l : List Int} {n : Int} {k : Nat} {x : Int} (h : ∀ y ∈ l.take k, y < n) (hx : l[k]? = some x) (hn : x < n) : ∀ y ∈ l.take (k + 1), y < n := by
  rw [snoc_get hx]
  intro y hy
  rcases List.mem_append.1 hy with hy | hy
  · exact h y hy
  · obtain rfl := List.mem_singleton.1 hy; exact hn
theorem put_there {l : List Int} {n : Int} {k : Nat} {x : Int} (h : ∀ y ∈ l.take k, y < n) (hx : l[k]? = some x) (hn : ¬ x < n) (e : x = n) : putW l n = l := by
 have hk := (List.getElem?_eq_some_iff.1 hx).1
 unfold putW
 rw [tw_len h (by omega) (.inr ⟨x, hx, hn⟩), if_pos (by rw [hx, e])]
theorem put_in {l : List Int} {n : Int} {k : Nat} {x : Int} (h : ∀ y ∈ l.take k, y < n) (hx : l[k]? = some x) (hn : ¬ x < n) (e : ¬ x = n) : putW l n = l.take k ++ [n] ++ l.drop k := by
 have hk := (List.getElem?_eq_some_iff.1 hx).1
 unfold putW
 rw [tw_len h (by omega) (.inr ⟨x, hx, hn⟩), if_neg (by rw [hx]; simpa using e)]
theorem put_end {l : List Int} {n : Int} {k : Nat} (h : ∀ y ∈ l.take k, y < n) (hk : k ≤ l.length) (hl : ¬ (k : Int) < (l.length : Int)) : putW l n = l.take k ++ [n] ++ l.drop k := by
 unfold putW
 rw [tw_len h hk (.inl (by omega)), if_neg (by rw [List.getElem?_eq_none (by omega)]; simp)]
theorem mem_bad {l : List Int} {n : Int} {k : Nat} {x : Int} (hx : l[k]? = some x) (e : x = n) : decide (n ∈ l) = true := by
 simp only [decide_eq_true_eq]; exact e ▸ List.mem_of_getElem? hx
theorem ne_snoc {l : List Int} {n : Int} {k : Nat} {x : Int} (h : ∀ y ∈ l.take k, y ≠ n) (hx : l[k]? = some x) (hn : ¬ x = n) : ∀ y ∈ l.take (k + 1), y ≠ n := by
  rw [snoc_get hx]
  intro y hy
  rcases List.mem_append.1 hy with hy | hy
  · exact h y hy
  · obtain rfl := List.mem_singleton.1 hy; exact hn
theorem mem_end {l : List Int} {n : Int} {k : Nat} (h : ∀ y ∈ l.take k, y ≠ n) (hl : ¬ (k : Int) < (l.length : Int)) : decide (n ∈ l) = false := by
 rw [take_all hl] at h
 simp only [decide_eq_false_iff_not]; exact fun hm => h n hm rfl

end Go.Proofs.Ytloicopmcagikaa


/- Plain facts for the law of clear times: what links reach, rows of indices, counting. Condition: none. -/
namespace Go.Proofs.Ytloicopmcagikaa
open Go.Vc
set_option linter.all false
theorem NetOk.at {n : NetP} (h : NetOk n) {k : Nat} {x : LinkD} (hx : n.links[k]? = some x) : LinkOk n.towers.length x := (h.lnk k x (List.getElem?_eq_some_iff.1 hx).1 hx).1
/-- the indices with a test -/
def idxTo (q : Nat → Bool) : Nat → List Int
  | 0 => []
  | k + 1 => if q k = true then idxTo q k ++ [(k : Int)] else idxTo q k
theorem idx_yes {q : Nat → Bool} {k : Nat} (h : q k = true) : idxTo q (k + 1) = idxTo q k ++ [(k : Int)] := by rw [idxTo, if_pos h]
theorem idx_no {q : Nat → Bool} {k : Nat} (h : ¬ q k = true) : idxTo q (k + 1) = idxTo q k := by rw [idxTo, if_neg h]
theorem mem_idx {q : Nat → Bool} {k : Nat} {x : Int} : x ∈ idxTo q k ↔ ∃ i : Nat, i < k ∧ q i = true ∧ x = (i : Int) := by
  induction k with
  | zero => simp [idxTo]
  | succ k ih =>
    by_cases h : q k = true
    · rw [idx_yes h, List.mem_append, ih]
      constructor
      · rintro (⟨i, h1, h2, h3⟩ | h1)
        · exact ⟨i, by omega, h2, h3⟩
        · exact ⟨k, by omega, h, List.mem_singleton.1 h1⟩
      · rintro ⟨i, h1, h2, h3⟩
        by_cases e : i = k
        · subst e; exact .inr (List.mem_singleton.2 h3)
        · exact .inl ⟨i, by omega, h2, h3⟩
    · rw [idx_no h, ih]
      constructor
      · rintro ⟨i, h1, h2, h3⟩; exact ⟨i, by omega, h2, h3⟩
      · rintro ⟨i, h1, h2, h3⟩
        by_cases e : i = k
        · subst e; exact absurd h2 h
        · exact ⟨i, by omega, h2, h3⟩
theorem idx_len (q : Nat → Bool) (k : Nat) : (idxTo q k).length ≤ k := by
  induction k with
  | zero => simp [idxTo]
  | succ k ih =>
    by_cases h : q k = true
    · rw [idx_yes h, List.length_append]; simp; omega
    · rw [idx_no h]; omega
theorem idx_full (q : Nat → Bool) (k : Nat) : (idxTo q k).length = k ↔ ∀ i, i < k → q i = true := by
  induction k with
  | zero => simp [idxTo]
  | succ k ih =>
    have hl := idx_len q k
    by_cases h : q k = true
    · rw [idx_yes h, List.length_append]
      simp only [List.length_cons, List.length_nil]
      constructor
      · intro e i hi
        by_cases e2 : i = k
        · subst e2; exact h
        · exact ih.1 (by omega) i (by omega)
      · intro e; have := ih.2 (fun i hi => e i (by omega)); omega
    · rw [idx_no h]
      constructor
      · intro e; omega
      · intro e; exact absurd (e k (by omega)) h
theorem idx_inc (q : Nat → Bool) (k : Nat) : (idxTo q k).Pairwise (· < ·) := by
  induction k with
  | zero => simp [idxTo]
  | succ k ih =>
    by_cases h : q k = true
    · rw [idx_yes h, List.pairwise_append]
      refine ⟨ih, List.pairwise_singleton .., fun x hx y hy => ?_⟩
      obtain ⟨i, h1, h2, h3⟩ := mem_idx.1 hx
      obtain rfl := List.mem_singleton.1 hy
      omega
    · rw [idx_no h]; exact ih
theorem inc_unique {a b : List Int} (ha : a.Pairwise (· < ·)) (hb : b.Pairwise (· < ·)) (h : ∀ x, x ∈ a ↔ x ∈ b) : a = b := by
  induction a generalizing b with
  | nil =>
    cases b with
    | nil => rfl
    | cons y b => exact absurd ((h y).2 (List.mem_cons_self ..)) (List.not_mem_nil)
  | cons x a ih =>
    cases b with
    | nil => exact absurd ((h x).1 (List.mem_cons_self ..)) (List.not_mem_nil)
    | cons y b =>
      obtain ⟨ha1, ha2⟩ := List.pairwise_cons.1 ha
      obtain ⟨hb1, hb2⟩ := List.pairwise_cons.1 hb
      have e : x = y := by
        rcases List.mem_cons.1 ((h x).1 (List.mem_cons_self ..)) with e | e
        · exact e
        · rcases List.mem_cons.1 ((h y).2 (List.mem_cons_self ..)) with e2 | e2
          · exact e2.symm
          · have := ha1 y e2; have := hb1 x e; omega
      subst e
      rw [ih ha2 hb2 fun z => ?_]
      constructor
      · intro hz
        rcases List.mem_cons.1 ((h z).1 (List.mem_cons_of_mem _ hz)) with e | e
        · subst e; have := ha1 z hz; omega
        · exact e
      · intro hz
        rcases List.mem_cons.1 ((h z).2 (List.mem_cons_of_mem _ hz)) with e | e
        · subst e; have := hb1 z hz; omega
        · exact e
/-- what links of a list reach -/
inductive Rc (L : List LinkD) (a : Int) : Int → Prop
  | refl : Rc L a a
  | step {u v : Int} {x : LinkD} : Rc L a u → x ∈ L → ((x.a = u ∧ x.b = v) ∨ (x.a = v ∧ x.b = u)) → Rc L a v
noncomputable def rcB (L : List LinkD) (a k : Int) : Bool := @decide (Rc L a k) (Classical.propDecidable _)
theorem rcB_true {L : List LinkD} {a k : Int} : rcB L a k = true ↔ Rc L a k := @decide_eq_true_iff _ (Classical.propDecidable _)
theorem Rc.sub {L L' : List LinkD} (hs : ∀ x ∈ L, x ∈ L') {a v : Int} (h : Rc L a v) : Rc L' a v := by
  induction h with
  | refl => exact .refl
  | step _ hx e ih => exact .step ih (hs _ hx) e
theorem Rc.closed {L : List LinkD} {a : Int} {S : Int → Prop} (h0 : S a) (hS : ∀ x ∈ L, S x.a ↔ S x.b) {v : Int} (h : Rc L a v) : S v := by
  induction h with
  | refl => exact h0
  | step _ hx e ih =>
    rcases e with ⟨e1, e2⟩ | ⟨e1, e2⟩
    · rw [← e2]; exact (hS _ hx).1 (by rw [e1]; exact ih)
    · rw [← e1]; exact (hS _ hx).2 (by rw [e2]; exact ih)
/-- the links with a test -/
def selTo (p : Nat → Bool) (L : List LinkD) : Nat → List LinkD
  | 0 => []
  | k + 1 => match L[k]? with
    | some x => if p k = true then selTo p L k ++ [x] else selTo p L k
    | none => selTo p L k
theorem sel_yes {p : Nat → Bool} {L : List LinkD} {k : Nat} {x : LinkD} (hx : L[k]? = some x) (h : p k = true) : selTo p L (k + 1) = selTo p L k ++ [x] := by rw [selTo, hx]; simp only; rw [if_pos h]
theorem sel_no {p : Nat → Bool} {L : List LinkD} {k : Nat} (h : ¬ p k = true) : selTo p L (k + 1) = selTo p L k := by
  rw [selTo]
  cases L[k]? with
  | none => rfl
  | some x => simp only; rw [if_neg h]
theorem mem_sel {p : Nat → Bool} {L : List LinkD} {k : Nat} {x : LinkD} : x ∈ selTo p L k ↔ ∃ i, i < k ∧ L[i]? = some x ∧ p i = true := by
  induction k with
  | zero => simp [selTo]
  | succ k ih =>
    by_cases h : p k = true
    · cases hy : L[k]? with
      | none =>
        rw [selTo, hy]
        simp only
        rw [ih]
        constructor
        · rintro ⟨i, h1, h2, h3⟩; exact ⟨i, by omega, h2, h3⟩
        · rintro ⟨i, h1, h2, h3⟩
          by_cases e : i = k
          · subst e; rw [hy] at h2; cases h2
          · exact ⟨i, by omega, h2, h3⟩
      | some y =>
        rw [sel_yes hy h, List.mem_append, ih]
        constructor
        · rintro (⟨i, h1, h2, h3⟩ | h1)
          · exact ⟨i, by omega, h2, h3⟩
          · exact ⟨k, by omega, by rw [hy, List.mem_singleton.1 h1], h⟩
        · rintro ⟨i, h1, h2, h3⟩
          by_cases e : i = k
          · subst e; rw [hy] at h2; exact .inr (List.mem_singleton.2 (Option.some.inj h2).symm)
          · exact .inl ⟨i, by omega, h2, h3⟩
    · rw [sel_no h, ih]
      constructor
      · rintro ⟨i, h1, h2, h3⟩; exact ⟨i, by omega, h2, h3⟩
      · rintro ⟨i, h1, h2, h3⟩
        by_cases e : i = k
        · subst e; exact absurd h3 h
        · exact ⟨i, by omega, h2, h3⟩
theorem sel_len (p : Nat → Bool) (L : List LinkD) (k : Nat) : (selTo p L k).length ≤ k := by
  induction k with
  | zero => simp [selTo]
  | succ k ih =>
    rw [selTo]
    split
    · split
      · simp; omega
      · omega
    · omega
/-- how many marks are still missing -/
def unset : List Bool → Nat
  | [] => 0
  | b :: d => (if b = true then 0 else 1) + unset d
theorem unset_le (d : List Bool) (i : Nat) : unset (d.set i true) ≤ unset d := by
  induction d generalizing i with
  | nil => simp [unset]
  | cons b d ih =>
    cases i with
    | zero => cases b <;> simp [unset]
    | succ i => simp only [List.set_cons_succ, unset]; have := ih i; omega
theorem unset_lt {d : List Bool} {i : Nat} (h : d[i]? = some false) : unset (d.set i true) < unset d := by
  induction d generalizing i with
  | nil => simp at h
  | cons b d ih =>
    cases i with
    | zero => simp at h; subst h; simp [unset]
    | succ i => simp only [List.set_cons_succ, unset]; have := ih (i := i) (by simpa using h); omega
/-- marks on the way: sound, of the start, closed under the first links -/
structure Mk (L : List LinkD) (T : Nat) (a : Int) (d : List Bool) : Prop where
  len : d.length = T
  st : d[a.toNat]? = some true
  snd : ∀ i : Nat, d[i]? = some true → Rc L a (i : Int)
theorem Mk.two {L : List LinkD} {T : Nat} {a : Int} {d : List Bool} (h : Mk L T a d) {x : LinkD} (hx : x ∈ L) (hk : LinkOk T x) (h1 : d[x.a.toNat]? = some true ∨ d[x.b.toNat]? = some true) : Mk L T a ((d.set x.a.toNat true).set x.b.toNat true) := by
  have hA : 0 ≤ x.a ∧ 0 ≤ x.b := by unfold LinkOk at hk; omega
  have hab : Rc L a x.a ∧ Rc L a x.b := by
    rcases h1 with h1 | h1
    · have := h.snd _ h1
      rw [show ((x.a.toNat : Nat) : Int) = x.a by omega] at this
      exact ⟨this, .step this hx (.inl ⟨rfl, rfl⟩)⟩
    · have := h.snd _ h1
      rw [show ((x.b.toNat : Nat) : Int) = x.b by omega] at this
      exact ⟨.step this hx (.inr ⟨rfl, rfl⟩), this⟩
  refine ⟨by simp [h.len], ?_, fun i hi => ?_⟩
  · rw [List.getElem?_set, List.getElem?_set]
    have h2 := h.st
    have h3 := (List.getElem?_eq_some_iff.1 h2).1
    split
    · rename_i e; rw [if_pos (by simp; omega)]
    · split
      · rename_i e; rw [if_pos (by omega)]
      · exact h2
  · rw [List.getElem?_set, List.getElem?_set] at hi
    split at hi
    · rename_i e; rw [← e, show ((x.b.toNat : Nat) : Int) = x.b by omega]; exact hab.2
    · split at hi
      · rename_i e; rw [← e, show ((x.a.toNat : Nat) : Int) = x.a by omega]; exact hab.1
      · exact h.snd i hi
theorem two_lt {d : List Bool} {i j : Nat} (h : d[i]? = some false ∨ d[j]? = some false) : unset ((d.set i true).set j true) < unset d := by
  have h1 := unset_le d i
  have h2 := unset_le (d.set i true) j
  rcases h with h | h
  · have := unset_lt h; omega
  · by_cases e : i = j
    · subst e; have := unset_lt h; omega
    · have := unset_lt (d := d.set i true) (i := j) (by rw [List.getElem?_set_ne e]; exact h)
      omega
theorem Mk.all {n : NetP} (hn : NetOk n) {p : Nat → Bool} {a : Int} {d : List Bool} (ha : 0 ≤ a) (h : Mk (selTo p n.links n.links.length) n.towers.length a d)
    (hc : ∀ (j : Nat) (x : LinkD), n.links[j]? = some x → p j = true → d[x.a.toNat]? = d[x.b.toNat]?) {i : Nat} (hi : i < n.towers.length) : d[i]? = some (rcB (selTo p n.links n.links.length) a (i : Int)) := by
  have hd : i < d.length := by rw [h.len]; exact hi
  have hg : d[i]? = some d[i] := List.getElem?_eq_getElem hd
  rw [hg]
  congr 1
  rw [Bool.eq_iff_iff, rcB_true]
  constructor
  · intro e; exact h.snd i (by rw [hg, e])
  · intro hr
    have := hr.closed (S := fun v => 0 ≤ v ∧ d[v.toNat]? = some true) ⟨ha, h.st⟩ (fun x hx => by
      obtain ⟨j, _, hj, hp⟩ := mem_sel.1 hx
      have hl := hn.at hj
      have := hc j x hj hp
      unfold LinkOk at hl
      constructor
      · rintro ⟨_, h2⟩; exact ⟨by omega, by rw [← this]; exact h2⟩
      · rintro ⟨_, h2⟩; exact ⟨by omega, by rw [this]; exact h2⟩)
    have h2 := this.2
    rw [show ((i : Int)).toNat = i by omega, hg] at h2
    exact Option.some.inj h2
theorem mk_start {L : List LinkD} {T : Nat} {a : Int} (ha : 0 ≤ a ∧ a < (T : Int)) : Mk L T a ((List.replicate T false).set a.toNat true) := by
  refine ⟨by simp, by rw [List.getElem?_set]; simp; omega, fun i hi => ?_⟩
  rw [List.getElem?_set] at hi
  split at hi
  · rename_i e; rw [← e, show ((a.toNat : Nat) : Int) = a by omega]; exact .refl
  · rw [List.getElem?_replicate] at hi; split at hi <;> simp at hi
end Go.Proofs.Ytloicopmcagikaa


/- Plain facts of what a row of met towers reaches, and of putting numbers in order. Condition: none. -/
namespace Go.Proofs.Ytloicopmcagikaa
open Go.Vc
set_option linter.all false
def btwB (u b : Int) (x : LinkD) : Bool := decide ((x.a = u ∧ x.b = b) ∨ (x.a = b ∧ x.b = u))
def nbB (L : List LinkD) (u b : Int) : Bool := L.any (btwB u b)
theorem nbB_true {L : List LinkD} {u b : Int} : nbB L u b = true ↔ ∃ x ∈ L, (x.a = u ∧ x.b = b) ∨ (x.a = b ∧ x.b = u) := by
  simp only [nbB, btwB, List.any_eq_true, decide_eq_true_eq]
/-- how many numbers below T are not in a row -/
def unm : Nat → List Int → Nat
  | 0, _ => 0
  | T + 1, m => unm T m + (if (T : Int) ∈ m then 0 else 1)
theorem unm_nil (T : Nat) : unm T [] = T := by
  induction T with
  | zero => rfl
  | succ T ih => rw [unm, ih, if_neg (List.not_mem_nil)]
theorem unm_far {T : Nat} {m : List Int} {v : Int} (h : (T : Int) ≤ v) : unm T (m ++ [v]) = unm T m := by
  induction T with
  | zero => rfl
  | succ T ih =>
    rw [unm, unm, ih (by omega)]
    congr 1
    have e : ((T : Int) ∈ m ++ [v]) ↔ (T : Int) ∈ m := by
      rw [List.mem_append, List.mem_singleton]
      constructor
      · rintro (h | h)
        · exact h
        · omega
      · exact .inl
    by_cases c : (T : Int) ∈ m
    · rw [if_pos c, if_pos (e.2 c)]
    · rw [if_neg c, if_neg (fun q => c (e.1 q))]
theorem unm_add {T : Nat} {m : List Int} {v : Int} (h0 : 0 ≤ v) (h1 : v < (T : Int)) (hn : v ∉ m) : unm T (m ++ [v]) + 1 = unm T m := by
  induction T with
  | zero => omega
  | succ T ih =>
    rw [unm, unm]
    by_cases c : v = (T : Int)
    · subst c
      rw [unm_far (Int.le_refl _), if_pos (by simp), if_neg hn]
    · have := ih (by omega)
      have e : ((T : Int) ∈ m ++ [v]) ↔ (T : Int) ∈ m := by
        rw [List.mem_append, List.mem_singleton]
        constructor
        · rintro (h | h)
          · exact h
          · exact absurd h.symm c
        · exact .inl
      by_cases c : (T : Int) ∈ m
      · rw [if_pos c, if_pos (e.2 c)]; omega
      · rw [if_neg c, if_neg (fun q => c (e.1 q))]; omega
structure Met (L : List LinkD) (T : Nat) (a : Int) (met : List Int) (k : Nat) : Prop where
  rng : ∀ v ∈ met, 0 ≤ v ∧ v < (T : Int) ∧ Rc L a v
  st : a ∈ met
  cnt : met.length + unm T met = T
  cls : ∀ (j : Nat) (u : Int), j < k → met[j]? = some u → ∀ b : Nat, b < T → nbB L u (b : Int) = true → (b : Int) ∈ met
theorem met_start {L : List LinkD} {T : Nat} {a : Int} (h : 0 ≤ a ∧ a < (T : Int)) : Met L T a [a] 0 := by
  refine ⟨fun v hv => ?_, List.mem_singleton.2 rfl, ?_, fun j u hj => absurd hj (Nat.not_lt_zero _)⟩
  · obtain rfl := List.mem_singleton.1 hv; exact ⟨h.1, h.2, .refl⟩
  · have := unm_add (T := T) (m := []) h.1 h.2 (List.not_mem_nil)
    rw [unm_nil] at this
    simp only [List.nil_append] at this
    simp only [List.length_cons, List.length_nil]; omega
/-- on the way through the next ones -/
structure Mi (L : List LinkD) (T : Nat) (a : Int) (met : List Int) (u : Int) (j : Nat) (m1 : List Int) : Prop where
  pre : ∃ e, m1 = met ++ e
  rng : ∀ v ∈ m1, 0 ≤ v ∧ v < (T : Int) ∧ Rc L a v
  cnt : m1.length + unm T m1 = T
  has : ∀ (i : Nat) (v : Int), i < j → (idxTo (fun b => nbB L u (b : Int)) T)[i]? = some v → v ∈ m1
theorem mi_start {L : List LinkD} {T : Nat} {a : Int} {met : List Int} {k : Nat} (h : Met L T a met k) (u : Int) : Mi L T a met u 0 met :=
 ⟨⟨[], (List.append_nil _).symm⟩, h.rng, h.cnt, fun i v hi => absurd hi (Nat.not_lt_zero _)⟩
theorem Mi.skip {L : List LinkD} {T : Nat} {a u v : Int} {met m1 : List Int} {j : Nat} (h : Mi L T a met u j m1) (hv : (idxTo (fun b => nbB L u (b : Int)) T)[j]? = some v) (hm : v ∈ m1) : Mi L T a met u (j + 1) m1 := by
  refine ⟨h.pre, h.rng, h.cnt, fun i w hi hw => ?_⟩
  by_cases e : i = j
  · subst e; rw [hv] at hw; obtain rfl := Option.some.inj hw; exact hm
  · exact h.has i w (by omega) hw
theorem Mi.add {L : List LinkD} {T : Nat} {a u v : Int} {met m1 : List Int} {j : Nat} (h : Mi L T a met u j m1) (hu : u ∈ met) (hv : (idxTo (fun b => nbB L u (b : Int)) T)[j]? = some v) (hm : v ∉ m1) : Mi L T a met u (j + 1) (m1 ++ [v]) := by
  obtain ⟨i, hi, hq, rfl⟩ := mem_idx.1 (List.mem_of_getElem? hv)
  obtain ⟨e, he⟩ := h.pre
  obtain ⟨x, hx, hxe⟩ := nbB_true.1 hq
  have hru := (h.rng u (by rw [he]; exact List.mem_append_left _ hu)).2.2
  have hrv : Rc L a (i : Int) := .step hru hx hxe
  refine ⟨⟨e ++ [(i : Int)], by rw [he, List.append_assoc]⟩, fun w hw => ?_, ?_, fun i' w hi' hw => ?_⟩
  · rcases List.mem_append.1 hw with hw | hw
    · exact h.rng w hw
    · obtain rfl := List.mem_singleton.1 hw; exact ⟨by omega, by omega, hrv⟩
  · have := unm_add (T := T) (m := m1) (v := (i : Int)) (by omega) (by omega) hm
    have := h.cnt
    rw [List.length_append]
    simp only [List.length_cons, List.length_nil]; omega
  · by_cases e' : i' = j
    · subst e'; rw [hv] at hw; obtain rfl := Option.some.inj hw; exact List.mem_append_right _ (List.mem_singleton.2 rfl)
    · exact List.mem_append_left _ (h.has i' w (by omega) hw)
theorem Mi.len {L : List LinkD} {T : Nat} {a u : Int} {met m1 : List Int} {j : Nat} (h : Mi L T a met u j m1) : met.length ≤ m1.length ∧ m1.length ≤ T := by
 obtain ⟨e, he⟩ := h.pre
 have := h.cnt
 exact ⟨by rw [he, List.length_append]; omega, by omega⟩
theorem Mi.ends {L : List LinkD} {T : Nat} {a u : Int} {met m1 : List Int} {j k : Nat} (h : Mi L T a met u j m1) (hM : Met L T a met k) (hk : met[k]? = some u) (hj : (idxTo (fun b => nbB L u (b : Int)) T).length ≤ j) : Met L T a m1 (k + 1) := by
  obtain ⟨e, he⟩ := h.pre
  have hkl := (List.getElem?_eq_some_iff.1 hk).1
  refine ⟨h.rng, by rw [he]; exact List.mem_append_left _ hM.st, h.cnt, fun j' u' hj' hu' b hb hq => ?_⟩
  rw [he, List.getElem?_append_left (by omega)] at hu'
  by_cases c : j' = k
  · subst c
    rw [hk] at hu'
    obtain rfl := Option.some.inj hu'
    obtain ⟨i, hi, e2⟩ := List.getElem_of_mem (mem_idx.2 ⟨b, hb, hq, rfl⟩ : (b : Int) ∈ idxTo (fun b => nbB L u (b : Int)) T)
    exact h.has i _ (by omega) (by rw [List.getElem?_eq_getElem hi, e2])
  · rw [he]; exact List.mem_append_left _ (hM.cls j' u' (by omega) hu' b hb hq)
theorem Met.mem {L : List LinkD} {T : Nat} {a : Int} {met : List Int} {k : Nat} (h : Met L T a met k) (hk : met.length ≤ k) (hL : ∀ x ∈ L, (0 ≤ x.a ∧ x.a < (T : Int)) ∧ 0 ≤ x.b ∧ x.b < (T : Int)) (v : Int) : v ∈ met ↔ ∃ i : Nat, i < T ∧ rcB L a (i : Int) = true ∧ v = (i : Int) := by
  have hcl : ∀ u ∈ met, ∀ b, 0 ≤ b → b < (T : Int) → nbB L u b = true → b ∈ met := by
    intro u hu b h0 h1 hq
    obtain ⟨j, hj, e⟩ := List.getElem_of_mem hu
    have := h.cls j u (by omega) (by rw [List.getElem?_eq_getElem hj, e]) b.toNat (by omega)
    rw [show ((b.toNat : Nat) : Int) = b by omega] at this
    exact this hq
  constructor
  · intro hv
    obtain ⟨h0, h1, h2⟩ := h.rng v hv
    exact ⟨v.toNat, by omega, rcB_true.2 (by rw [show ((v.toNat : Nat) : Int) = v by omega]; exact h2), by omega⟩
  · rintro ⟨i, hi, hr, rfl⟩
    refine (rcB_true.1 hr).closed (S := fun v => v ∈ met) h.st fun x hx => ?_
    obtain ⟨⟨a0, a1⟩, b0, b1⟩ := hL x hx
    constructor
    · intro hm; exact hcl _ hm _ b0 b1 (nbB_true.2 ⟨x, hx, .inl ⟨rfl, rfl⟩⟩)
    · intro hm; exact hcl _ hm _ a0 a1 (nbB_true.2 ⟨x, hx, .inr ⟨rfl, rfl⟩⟩)
theorem tw_split (l : List Int) (n : Int) : l.take (l.takeWhile (fun x => decide (x < n))).length = l.takeWhile (fun x => decide (x < n)) ∧ l.drop (l.takeWhile (fun x => decide (x < n))).length = l.dropWhile (fun x => decide (x < n)) := by
  induction l with
  | nil => exact ⟨rfl, rfl⟩
  | cons y l ih =>
    by_cases c : y < n
    · rw [List.takeWhile_cons, if_pos (by simpa using c), List.dropWhile_cons, if_pos (by simpa using c)]
      simp only [List.length_cons, List.take_succ_cons, List.drop_succ_cons]
      exact ⟨by rw [ih.1], ih.2⟩
    · rw [List.takeWhile_cons, if_neg (by simpa using c), List.dropWhile_cons, if_neg (by simpa using c)]
      exact ⟨rfl, rfl⟩
theorem put_facts {l : List Int} (hl : l.Pairwise (· < ·)) (n : Int) : (putW l n).Pairwise (· < ·) ∧ ∀ x, x ∈ putW l n ↔ (x ∈ l ∨ x = n) := by
  have hA : ∀ x ∈ l.takeWhile (fun x => decide (x < n)), x < n := by
    intro x hx
    clear hl
    induction l with
    | nil => simp at hx
    | cons y l ih =>
      rw [List.takeWhile_cons] at hx
      split at hx
      · rcases List.mem_cons.1 hx with e | e
        · subst e; rename_i c; simpa using c
        · exact ih e
      · simp at hx
  have hB : ∀ y, (l.dropWhile (fun x => decide (x < n)))[0]? = some y → n ≤ y := by
    intro y hy
    clear hl hA
    induction l with
    | nil => simp at hy
    | cons z l ih =>
      rw [List.dropWhile_cons] at hy
      split at hy
      · exact ih hy
      · rename_i c
        simp at hy c
        omega
  have hAB := List.takeWhile_append_dropWhile (p := fun x => decide (x < n)) (l := l)
  have hg : l[(l.takeWhile (fun x => decide (x < n))).length]? = (l.dropWhile (fun x => decide (x < n)))[0]? := by
    rw [← (tw_split l n).2, List.getElem?_drop]; rfl
  unfold putW
  rw [hg, (tw_split l n).1, (tw_split l n).2]
  generalize l.takeWhile (fun x => decide (x < n)) = A at *
  generalize l.dropWhile (fun x => decide (x < n)) = B at *
  subst hAB
  clear hg
  obtain ⟨p1, p2, p3⟩ := List.pairwise_append.1 hl
  cases B with
  | nil =>
    rw [if_neg (by simp)]
    refine ⟨?_, fun x => by simp⟩
    simp only [List.append_nil]
    rw [List.pairwise_append]
    exact ⟨p1, List.pairwise_singleton .., fun x hx y hy => by obtain rfl := List.mem_singleton.1 hy; exact hA x hx⟩
  | cons y B =>
    have hy := hB y rfl
    obtain ⟨q1, q2⟩ := List.pairwise_cons.1 p2
    by_cases c : y = n
    · subst c
      rw [if_pos (by simp)]
      exact ⟨hl, fun x => ⟨.inl, fun h => h.elim id (fun e => by subst e; simp)⟩⟩
    · rw [if_neg (by simpa using c)]
      refine ⟨?_, fun x => by simp only [List.mem_append, List.mem_cons, List.mem_singleton]; constructor <;> (intro h; rcases h with h | h <;> simp_all <;> (try (rcases h with h | h <;> simp_all)))⟩
      rw [List.append_assoc, List.pairwise_append]
      refine ⟨p1, ?_, fun x hx z hz => ?_⟩
      · refine List.pairwise_cons.2 ⟨fun z hz => ?_, p2⟩
        rcases List.mem_cons.1 hz with e | e
        · subst e; omega
        · have := q1 z e; omega
      · rcases List.mem_cons.1 hz with e | e
        · subst e; exact hA x hx
        · exact p3 x hx z e
def putAll (m : List Int) : List Int := m.foldl putW []
theorem putAll_snoc (m : List Int) (x : Int) : putAll (m ++ [x]) = putW (putAll m) x := by simp [putAll]
theorem putAll_facts (m : List Int) : (putAll m).Pairwise (· < ·) ∧ ∀ x, x ∈ putAll m ↔ x ∈ m := by
  have : ∀ (m : List Int) (l : List Int), l.Pairwise (· < ·) → (m.foldl putW l).Pairwise (· < ·) ∧ ∀ x, x ∈ m.foldl putW l ↔ (x ∈ l ∨ x ∈ m) := by
    intro m
    induction m with
    | nil => intro l hl; exact ⟨hl, fun x => by simp⟩
    | cons y m ih =>
      intro l hl
      obtain ⟨h1, h2⟩ := put_facts hl y
      obtain ⟨h3, h4⟩ := ih _ h1
      refine ⟨h3, fun x => ?_⟩
      simp only [List.foldl_cons]
      rw [h4, h2, List.mem_cons, or_assoc]
  obtain ⟨h1, h2⟩ := this m [] .nil
  exact ⟨h1, fun x => by rw [putAll, h2]; simp⟩
theorem put_len (l : List Int) (n : Int) : (putW l n).length ≤ l.length + 1 := by
  unfold putW
  split
  · omega
  · simp only [List.length_append, List.length_take, List.length_drop, List.length_cons, List.length_nil]; omega
theorem putAll_len (m : List Int) (k : Nat) : (putAll (m.take k)).length ≤ k := by
  induction k with
  | zero => simp [putAll]
  | succ k ih =>
    by_cases hk : k < m.length
    · rw [snoc_get (List.getElem?_eq_getElem hk), putAll_snoc]
      have := put_len (putAll (m.take k)) m[k]
      omega
    · rw [List.take_of_length_le (by omega)]; rw [List.take_of_length_le (by omega)] at ih; omega
theorem met_out {L : List LinkD} {T : Nat} {a : Int} {met : List Int} {k : Nat} (h : Met L T a met k) (hk : met.length ≤ k) (hL : ∀ x ∈ L, (0 ≤ x.a ∧ x.a < (T : Int)) ∧ 0 ≤ x.b ∧ x.b < (T : Int)) : putAll met = idxTo (fun i => rcB L a (i : Int)) T := by
 obtain ⟨h1, h2⟩ := putAll_facts met
 refine inc_unique h1 (idx_inc _ _) fun x => ?_
 rw [h2, h.mem hk hL, mem_idx]
end Go.Proofs.Ytloicopmcagikaa


/- Earliest starts, foggy links, towers joined. Condition: none. Printed in part by a program. -/
namespace Go.Proofs.Ytloicopmcagikaa
open Go.Vc
set_option linter.all false

noncomputable def esOut (n : NetP) (l : List FogD) (link t s : Int) : Int × Bool := if AskF n l link t t ∧ (1 ≤ s ∧ s ≤ 1000) then (stF l link t s, true) else (0, false)
abbrev AskT (n : NetP) (l : List FogD) (t : Int) : Prop := NetOk n ∧ FogsOk n.links.length l ∧ (0 ≤ t ∧ t ≤ 10000)
noncomputable instance (n : NetP) (l : List FogD) (t : Int) : Decidable (AskT n l t) := Classical.propDecidable _
noncomputable def flOut (n : NetP) (l : List FogD) (t : Int) : List Int × Bool := if AskT n l t then (idxTo (fun k => !clF l (k : Int) t) n.links.length, true) else ([], false)
noncomputable def reachL (n : NetP) (p : Nat → Bool) (a : Int) : List Int := idxTo (fun i => rcB (selTo p n.links n.links.length) a (i : Int)) n.towers.length
noncomputable def jnOut (n : NetP) (l : List FogD) (t : Int) : Bool × Bool := if AskT n l t then (decide ((reachL n (fun i => clF l (i : Int) t) 0).length = n.towers.length), true) else (false, false)
noncomputable def ijOut (n : NetP) : Bool × Bool := if NetOk n then (decide ((reachL n (fun _ => true) 0).length = n.towers.length), true) else (false, false)
theorem lkF_nn {L : List LinkD} {a b : Int} : 0 ≤ firstF (btwB a b) L 0 ↔ nbB L a b = true := firstF_nonneg _ _ _
theorem lkF_end {L : List LinkD} {a b : Int} {k : Nat} (hF : firstF (btwB a b) L 0 = firstF (btwB a b) (L.drop k) k) (hk : L.length ≤ k) : firstF (btwB a b) L 0 = -1 := by
 rw [hF, List.drop_of_length_le hk]; rfl
theorem lkF_hit {L : List LinkD} {a b : Int} {k : Nat} {x : LinkD} (hF : firstF (btwB a b) L 0 = firstF (btwB a b) (L.drop k) k) (hx : L[k]? = some x) (h : (x.a = a ∧ x.b = b) ∨ (x.a = b ∧ x.b = a)) : firstF (btwB a b) L 0 = (k : Int) := by
 rw [hF, drop_at hx, firstF, btwB, decide_eq_true h]; rfl
theorem lkF_miss {L : List LinkD} {a b : Int} {k : Nat} {x : LinkD} (hF : firstF (btwB a b) L 0 = firstF (btwB a b) (L.drop k) k) (hx : L[k]? = some x) (h : ¬ ((x.a = a ∧ x.b = b) ∨ (x.a = b ∧ x.b = a))) : firstF (btwB a b) L 0 = firstF (btwB a b) (L.drop (k + 1)) (k + 1) := by
 rw [hF, drop_at hx, firstF, btwB, decide_eq_false h]; rfl

theorem impl_EarliestStart_ok (n : NetP) (v_n_towers : Value) (v_n_links : Value) (v_l : Value) (l : List FogD) (link : Int) (t : Int) (s : Int) (h : Heap) (s_n_towers : Sl h v_n_towers n.towers) (s_n_links : Sl h v_n_links n.links) (s_l : Sl h v_l l) : Cn f_impl_EarliestStart [.agg #[v_n_towers, v_n_links], v_l, .int .i64 link, .int .i64 t, .int .i64 s] h fun v h' => v = .tuple #[.int .i64 ((esOut n l link t s).1), .bool ((esOut n l link t s).2)] ∧ Ext h h' := by
 have l63_n_towers := s_n_towers.len63
 have l63_n_links := s_n_links.len63
 have l63_l := s_l.len63
 refine calls_of r_impl_EarliestStart ?_
 refine v_seq <| v_ops ?_
 refine s_box [v_n_towers, v_n_links] rfl (fun h2 b1 hbb1 hzb1 eh2 bxb1 => ?_)
 have E3 := (Ext.refl h).trans eh2
 have z4 := eh2.size
 have lbb1 := bxb1.lt
 refine s_pq (.int .i64 0) <| s_pq (.bool false) <| s_nil <| p_seqN <| v_seq <| v_seq <| v_ops <| s_load (.agg #[v_n_towers, v_n_links]) (fun _ q => bxb1.loadA rfl q) <| s_pq v_l <| s_pq (.int .i64 link) <| s_pq (.int .i64 t) <| s_pq (.int .i64 t) ?_
 have f5 := (s_n_towers.ext eh2)
 have f6 := (s_n_links.ext eh2)
 have f7 := (s_l.ext eh2)
 refine s_call [.agg #[v_n_towers, v_n_links], v_l, .int .i64 link, .int .i64 t, .int .i64 t] rfl (impl_fogAsked_ok n v_n_towers v_n_links v_l l link t t _ f5 f6 f7) ?_
 rintro _ h8 ⟨rfl, eh8⟩
 have E9 := E3.trans eh8
 have z10 := eh8.size
 refine s_pq (.bool (!(decide (AskF n l link t t)))) <| s_pq (.bool (!(decide (AskF n l link t t)))) ?_
 refine s_splitT rfl (fun c11 => ?_) (fun c11 => ?_)
 ·
  refine s_pass rfl <| s_pass rfl <| s_pass rfl <| s_pq (.bool true) <| s_nil <| p_seqN <| v_condY rfl rfl <| v_seq <| v_ops <| s_pq (.int .i64 0) <| s_pq (.bool false) <| s_nil <| p_seqN <| v_ret <| p_seqR <| p_ret [.int .i64 0, .bool false] (.tuple #[.int .i64 0, .bool false]) (fun _ q => q) rfl ?_
  have ho : (esOut n l link t s) = (0, false) := by first | exact if_neg (by rintro ⟨q1, q2⟩; first | contradiction | omega) | exact if_pos ⟨by assumption, by omega⟩
  exact ⟨by first | (rw [ho]; done) | rfl, E9⟩
 have c11 := Classical.not_not.1 c11
 refine s_run rfl <| s_pq (.int .i64 s) <| s_run rfl <| s_callS [.int .i64 s, .int .i64 1, .int .i64 1000] (.bool (decide (1 ≤ s ∧ s ≤ 1000))) rfl (within_ok s 1 1000 _ ) <| s_run rfl <| s_pq (.bool (!(decide (1 ≤ s ∧ s ≤ 1000)))) <| s_pq (.bool (!(decide (1 ≤ s ∧ s ≤ 1000)))) <| s_nil <| p_seqN ?_
 refine v_cond rfl (fun c12 => ?_) (fun c12 => ?_)
 ·
  refine v_seq <| v_ops <| s_pq (.int .i64 0) <| s_pq (.bool false) <| s_nil <| p_seqN <| v_ret <| p_seqR <| p_ret [.int .i64 0, .bool false] (.tuple #[.int .i64 0, .bool false]) (fun _ q => q) rfl ?_
  have ho : (esOut n l link t s) = (0, false) := by first | exact if_neg (by rintro ⟨q1, q2⟩; first | contradiction | omega) | exact if_pos ⟨by assumption, by omega⟩
  exact ⟨by first | (rw [ho]; done) | rfl, E9⟩
 have c12 := Classical.not_not.1 c12
 refine v_skip <| p_seqN <| v_seq <| v_ops <| s_pq v_l <| s_pq (.int .i64 link) <| s_pq (.int .i64 t) <| s_pq (.int .i64 s) ?_
 have f13 := (f7.ext eh8)
 refine s_call [v_l, .int .i64 link, .int .i64 t, .int .i64 s] rfl (impl_startAfter_ok v_l l link t s _ f13 _ (by assumption : AskF _ _ _ _ _).hf ⟨(by assumption : AskF _ _ _ _ _).ha, by (have q_ := (by assumption : AskF _ _ _ _ _).hb); omega⟩ (by omega)) ?_
 rintro _ h14 ⟨rfl, eh14⟩
 have E15 := E9.trans eh14
 have z16 := eh14.size
 refine s_pq (.int .i64 (stF l link t s)) <| s_pq (.bool true) <| s_nil <| p_seqN <| v_ret <| p_ret [.int .i64 (stF l link t s), .bool true] (.tuple #[.int .i64 (stF l link t s), .bool true]) (fun _ q => q) rfl ?_
 have ho : (esOut n l link t s) = ((stF l link t s), true) := by first | exact if_neg (by rintro ⟨q1, q2⟩; first | contradiction | omega) | exact if_pos ⟨by assumption, by omega⟩
 exact ⟨by first | (rw [ho]; done) | rfl, E15⟩

theorem spec_EarliestStart_ok (n : NetP) (v_n_towers : Value) (v_n_links : Value) (v_l : Value) (l : List FogD) (link : Int) (t : Int) (s : Int) (h : Heap) (s_n_towers : Sl h v_n_towers n.towers) (s_n_links : Sl h v_n_links n.links) (s_l : Sl h v_l l) : Cn f_spec_EarliestStart [.agg #[v_n_towers, v_n_links], v_l, .int .i64 link, .int .i64 t, .int .i64 s] h fun v h' => v = .tuple #[.int .i64 ((esOut n l link t s).1), .bool ((esOut n l link t s).2)] ∧ Ext h h' := by
 have l63_n_towers := s_n_towers.len63
 have l63_n_links := s_n_links.len63
 have l63_l := s_l.len63
 refine calls_of r_spec_EarliestStart ?_
 refine v_seq <| v_ops ?_
 refine s_box [v_n_towers, v_n_links] rfl (fun h2 b1 hbb1 hzb1 eh2 bxb1 => ?_)
 have E3 := (Ext.refl h).trans eh2
 have z4 := eh2.size
 have lbb1 := bxb1.lt
 refine s_pq (.int .i64 0) <| s_pq (.bool false) <| s_nil <| p_seqN <| v_seq <| v_seq <| v_ops <| s_load (.agg #[v_n_towers, v_n_links]) (fun _ q => bxb1.loadA rfl q) <| s_pq v_l <| s_pq (.int .i64 link) ?_
 have f5 := (s_n_towers.ext eh2)
 have f6 := (s_n_links.ext eh2)
 have f7 := (s_l.ext eh2)
 refine s_call [.agg #[v_n_towers, v_n_links], v_l, .int .i64 link] rfl (spec_fgHas_ok n v_n_towers v_n_links v_l l link _ f5 f6 f7) ?_
 rintro _ h8 ⟨rfl, eh8⟩
 have E9 := E3.trans eh8
 have z10 := eh8.size
 refine s_pq (.bool (!(decide (NetOk n ∧ FogsOk n.links.length l ∧ (0 ≤ link ∧ link ≤ (n.links.length : Int) - 1))))) <| s_pq (.bool (!(decide (NetOk n ∧ FogsOk n.links.length l ∧ (0 ≤ link ∧ link ≤ (n.links.length : Int) - 1))))) ?_
 refine s_splitT rfl (fun c11 => ?_) (fun c11 => ?_)
 ·
  refine s_pass rfl <| s_pass rfl <| s_pass rfl <| s_pq (.bool true) <| s_pq (.bool true) <| s_splitY rfl rfl <| s_pass rfl <| s_pass rfl <| s_pass rfl <| s_pq (.bool true) <| s_nil <| p_seqN <| v_condY rfl rfl <| v_seq <| v_ops <| s_pq (.int .i64 0) <| s_pq (.bool false) <| s_nil <| p_seqN <| v_ret <| p_seqR <| p_ret [.int .i64 0, .bool false] (.tuple #[.int .i64 0, .bool false]) (fun _ q => q) rfl ?_
  have ho : (esOut n l link t s) = (0, false) := by first | exact if_pos ⟨askF_of (by assumption) (by assumption), by omega⟩ | exact if_neg (fun q => askF_not (.inl (by assumption)) q.1) | exact if_neg (fun q => askF_not (.inr (by assumption)) q.1) | exact if_neg (fun q => by have := q.2; omega)
  exact ⟨by first | (rw [ho]; done) | rfl, E9⟩
 have c11 := Classical.not_not.1 c11
 refine s_run rfl <| s_pq (.int .i64 t) <| s_run rfl <| s_callS [.int .i64 t] (.bool (decide (0 ≤ t ∧ t ≤ 10000))) rfl (spec_fgTime_ok t _ ) <| s_run rfl <| s_pq (.bool (!(decide (0 ≤ t ∧ t ≤ 10000)))) <| s_pq (.bool (!(decide (0 ≤ t ∧ t ≤ 10000)))) <| s_pq (.bool (!(decide (0 ≤ t ∧ t ≤ 10000)))) ?_
 refine s_splitT rfl (fun c12 => ?_) (fun c12 => ?_)
 ·
  refine s_pass rfl <| s_pass rfl <| s_pass rfl <| s_pq (.bool true) <| s_nil <| p_seqN <| v_condY rfl rfl <| v_seq <| v_ops <| s_pq (.int .i64 0) <| s_pq (.bool false) <| s_nil <| p_seqN <| v_ret <| p_seqR <| p_ret [.int .i64 0, .bool false] (.tuple #[.int .i64 0, .bool false]) (fun _ q => q) rfl ?_
  have ho : (esOut n l link t s) = (0, false) := by first | exact if_pos ⟨askF_of (by assumption) (by assumption), by omega⟩ | exact if_neg (fun q => askF_not (.inl (by assumption)) q.1) | exact if_neg (fun q => askF_not (.inr (by assumption)) q.1) | exact if_neg (fun q => by have := q.2; omega)
  exact ⟨by first | (rw [ho]; done) | rfl, E9⟩
 have c12 := Classical.not_not.1 c12
 refine s_run rfl <| s_pq (.int .i64 s) <| s_run rfl <| s_callS [.int .i64 s, .int .i64 1, .int .i64 1000] (.bool (decide (1 ≤ s ∧ s ≤ 1000))) rfl (l1In_ok s 1 1000 _ ) <| s_run rfl <| s_pq (.bool (!(decide (1 ≤ s ∧ s ≤ 1000)))) <| s_pq (.bool (!(decide (1 ≤ s ∧ s ≤ 1000)))) <| s_nil <| p_seqN ?_
 refine v_cond rfl (fun c13 => ?_) (fun c13 => ?_)
 ·
  refine v_seq <| v_ops <| s_pq (.int .i64 0) <| s_pq (.bool false) <| s_nil <| p_seqN <| v_ret <| p_seqR <| p_ret [.int .i64 0, .bool false] (.tuple #[.int .i64 0, .bool false]) (fun _ q => q) rfl ?_
  have ho : (esOut n l link t s) = (0, false) := by first | exact if_pos ⟨askF_of (by assumption) (by assumption), by omega⟩ | exact if_neg (fun q => askF_not (.inl (by assumption)) q.1) | exact if_neg (fun q => askF_not (.inr (by assumption)) q.1) | exact if_neg (fun q => by have := q.2; omega)
  exact ⟨by first | (rw [ho]; done) | rfl, E9⟩
 have c13 := Classical.not_not.1 c13
 refine v_skip <| p_seqN <| v_seq <| v_ops <| s_pq v_l <| s_pq (.int .i64 link) <| s_pq (.int .i64 t) <| s_pq (.int .i64 s) ?_
 have f14 := (f7.ext eh8)
 refine s_call [v_l, .int .i64 link, .int .i64 t, .int .i64 s] rfl (spec_fgStart_ok v_l l link t s _ f14 _ (by assumption : NetOk n ∧ FogsOk n.links.length l ∧ (0 ≤ link ∧ link ≤ (n.links.length : Int) - 1)).2.1 ⟨by omega, by omega⟩ (by omega)) ?_
 rintro _ h15 ⟨rfl, eh15⟩
 have E16 := E9.trans eh15
 have z17 := eh15.size
 refine s_pq (.int .i64 (stF l link t s)) <| s_pq (.bool true) <| s_nil <| p_seqN <| v_ret <| p_ret [.int .i64 (stF l link t s), .bool true] (.tuple #[.int .i64 (stF l link t s), .bool true]) (fun _ q => q) rfl ?_
 have ho : (esOut n l link t s) = ((stF l link t s), true) := by first | exact if_pos ⟨askF_of (by assumption) (by assumption), by omega⟩ | exact if_neg (fun q => askF_not (.inl (by assumption)) q.1) | exact if_neg (fun q => askF_not (.inr (by assumption)) q.1) | exact if_neg (fun q => by have := q.2; omega)
 exact ⟨by first | (rw [ho]; done) | rfl, E16⟩

set_option maxRecDepth 10000 in
set_option maxHeartbeats 4000000 in
theorem impl_FoggyLinks_ok (n : NetP) (v_n_towers : Value) (v_n_links : Value) (v_l : Value) (l : List FogD) (t : Int) (h : Heap) (s_n_towers : Sl h v_n_towers n.towers) (s_n_links : Sl h v_n_links n.links) (s_l : Sl h v_l l) : Cn f_impl_FoggyLinks [.agg #[v_n_towers, v_n_links], v_l, .int .i64 t] h fun v h' => ∃ r0 : Value, v = .tuple #[r0, .bool ((flOut n l t).2)] ∧ SlO h' r0 ((flOut n l t).1) ∧ Fr h.size r0 ∧ Ext h h' := by
 have l63_n_towers := s_n_towers.len63
 have l63_n_links := s_n_links.len63
 have l63_l := s_l.len63
 refine calls_of r_impl_FoggyLinks ?_
 refine v_seq <| v_ops ?_
 refine s_box [v_n_towers, v_n_links] rfl (fun h2 b1 hbb1 hzb1 eh2 bxb1 => ?_)
 have E3 := (Ext.refl h).trans eh2
 have z4 := eh2.size
 have lbb1 := bxb1.lt
 refine s_pq (.slice none 0 0) <| s_pq (.bool false) <| s_nil <| p_seqN <| v_seq <| v_seq <| v_ops <| s_load (.agg #[v_n_towers, v_n_links]) (fun _ q => bxb1.loadA rfl q) ?_
 have f5 := (s_n_towers.ext eh2)
 have f6 := (s_n_links.ext eh2)
 refine s_call [.agg #[v_n_towers, v_n_links]] rfl (impl_IsNet_ok n v_n_towers v_n_links _ f5 f6) ?_
 rintro _ h7 ⟨rfl, eh7⟩
 have E8 := E3.trans eh7
 have z9 := eh7.size
 refine s_pq (.bool (!decide (NetOk n))) <| s_pq (.bool (!decide (NetOk n))) ?_
 refine s_splitT rfl (fun c10 => ?_) (fun c10 => ?_)
 ·
  refine s_pass rfl <| s_pass rfl <| s_pass rfl <| s_pass rfl <| s_pq (.bool true) <| s_pq (.bool true) <| s_splitY rfl rfl <| s_pass rfl <| s_pass rfl <| s_pass rfl <| s_pq (.bool true) <| s_nil <| p_seqN <| v_condY rfl rfl <| v_seq <| v_ops <| s_pq (.slice none 0 0) <| s_pq (.bool false) <| s_nil <| p_seqN <| v_ret <| p_seqR <| p_ret [.slice none 0 0, .bool false] (.tuple #[.slice none 0 0, .bool false]) (fun _ q => q) rfl ?_
  have ho : (flOut n l t) = ([], false) := by first | exact if_neg (by rintro ⟨q1, q2, q3⟩; first | contradiction | omega) | (rw [flOut, if_pos ⟨by assumption, by assumption, by omega⟩, ho]; congr 2; omega)
  exact ⟨(.slice none 0 0), by first | (rw [ho]; done) | rfl, sl_eq (SlX.nil (α := Int) true _) (congrArg (fun o => o.1) ho).symm, Fr.nil _, E8⟩
 have c10 := Classical.not_not.1 c10
 refine s_run rfl ?_
 have f11 := (bxb1.ext eh7)
 refine s_load (.agg #[v_n_towers, v_n_links]) (fun _ q => f11.loadA rfl q) <| s_run rfl <| s_pq v_l <| s_run rfl ?_
 have f12 := (f5.ext eh7)
 have f13 := (f6.ext eh7)
 have f14 := ((s_l.ext eh2).ext eh7)
 refine s_call [.agg #[v_n_towers, v_n_links], v_l] rfl (impl_areFogs_ok n v_n_towers v_n_links v_l l _ f12 f13 f14) ?_
 rintro _ h15 ⟨rfl, eh15⟩
 have E16 := E8.trans eh15
 have z17 := eh15.size
 refine s_run rfl <| s_pq (.bool (!(decide (FogsOk n.links.length l)))) <| s_pq (.bool (!(decide (FogsOk n.links.length l)))) <| s_pq (.bool (!(decide (FogsOk n.links.length l)))) ?_
 refine s_splitT rfl (fun c18 => ?_) (fun c18 => ?_)
 ·
  refine s_pass rfl <| s_pass rfl <| s_pass rfl <| s_pq (.bool true) <| s_nil <| p_seqN <| v_condY rfl rfl <| v_seq <| v_ops <| s_pq (.slice none 0 0) <| s_pq (.bool false) <| s_nil <| p_seqN <| v_ret <| p_seqR <| p_ret [.slice none 0 0, .bool false] (.tuple #[.slice none 0 0, .bool false]) (fun _ q => q) rfl ?_
  have ho : (flOut n l t) = ([], false) := by first | exact if_neg (by rintro ⟨q1, q2, q3⟩; first | contradiction | omega) | (rw [flOut, if_pos ⟨by assumption, by assumption, by omega⟩, ho]; congr 2; omega)
  exact ⟨(.slice none 0 0), by first | (rw [ho]; done) | rfl, sl_eq (SlX.nil (α := Int) true _) (congrArg (fun o => o.1) ho).symm, Fr.nil _, E16⟩
 have c18 := Classical.not_not.1 c18
 refine s_run rfl <| s_pq (.int .i64 t) <| s_run rfl <| s_callS [.int .i64 t, .int .i64 0, .int .i64 10000] (.bool (decide (0 ≤ t ∧ t ≤ 10000))) rfl (within_ok t 0 10000 _ ) <| s_run rfl <| s_pq (.bool (!(decide (0 ≤ t ∧ t ≤ 10000)))) <| s_pq (.bool (!(decide (0 ≤ t ∧ t ≤ 10000)))) <| s_nil <| p_seqN ?_
 refine v_cond rfl (fun c19 => ?_) (fun c19 => ?_)
 ·
  refine v_seq <| v_ops <| s_pq (.slice none 0 0) <| s_pq (.bool false) <| s_nil <| p_seqN <| v_ret <| p_seqR <| p_ret [.slice none 0 0, .bool false] (.tuple #[.slice none 0 0, .bool false]) (fun _ q => q) rfl ?_
  have ho : (flOut n l t) = ([], false) := by first | exact if_neg (by rintro ⟨q1, q2, q3⟩; first | contradiction | omega) | (rw [flOut, if_pos ⟨by assumption, by assumption, by omega⟩, ho]; congr 2; omega)
  exact ⟨(.slice none 0 0), by first | (rw [ho]; done) | rfl, sl_eq (SlX.nil (α := Int) true _) (congrArg (fun o => o.1) ho).symm, Fr.nil _, E16⟩
 have c19 := Classical.not_not.1 c19
 refine v_skip <| p_seqN <| v_seq <| v_ops <| s_pq (.slice none 0 0) <| s_nil <| p_seqN <| v_seq <| v_seq <| v_ops <| s_pq (.pointer (some ⟨b1, 1, none⟩)) ?_
 have f20 := (f11.ext eh15)
 refine s_load v_n_links (fun _ q => f20.load rfl q) <| s_pure (.int .i64 (n.links.length : Int)) (fun _ q => f13.lenVC q) <| s_pq (.int .i64 0) <| s_nil <| p_seqN <| v_block <| v_loop3 (α := Nat) (β := List Int) (γ := Value) (fun k o w => [(1, v_l), (2, .int .i64 t), (8, w), (26, .int .i64 (n.links.length : Int)), (27, .int .i64 (k : Int))]) (fun k o w hh => Ext h hh ∧ SlO hh w o ∧ Fr h.size w ∧ k ≤ n.links.length ∧ o = idxTo (fun k => !clF l (k : Int) t) k) (fun k o w => n.links.length - k) 0 [] (.slice none 0 0) ⟨rfl, rfl, rfl, rfl, rfl⟩ ⟨E16, (sl_eq (SlX.nil (α := Int) true h15) (by simp)), (Fr.nil _), (by exact ⟨by omega, rfl⟩)⟩ ?_
 rintro k o w R22 h21 ⟨Eh, s_w, fr_w, ⟨hk, ho⟩⟩
 have zEh := Eh.size
 have f26 := s_l.ext Eh
 have h40 := (by assumption : NetOk n).l2
 have hol := idx_len (fun k => !clF l (k : Int) t) k
 rw [← ho] at hol
 refine v_seq <| v_ops <| s_pq (.bool (decide ((k : Int) < (n.links.length : Int)))) <| s_nil <| p_seqN <| v_seq ?_
 refine v_cond rfl (fun c27 => ?_) (fun c27 => ?_)
 ·
  refine v_skip <| p_seqN <| v_seq <| v_block <| v_seq <| v_ops <| s_pq (.int .i64 (k : Int)) <| s_pq (.int .i64 (k : Int)) <| s_nil <| p_seqN <| v_seq <| v_ops <| s_pq v_l <| s_pq (.int .i64 (k : Int)) <| s_pq (.int .i64 t) <| s_call [v_l, .int .i64 (k : Int), .int .i64 t] rfl (impl_isClear_ok v_l l (k : Int) t _ f26) ?_
  rintro _ h28 ⟨rfl, eh28⟩
  have E29 := Eh.trans eh28
  have z30 := eh28.size
  refine s_pq (.bool (!(clF l (k : Int) t))) <| s_nil <| p_seqN ?_
  refine v_cond rfl (fun c31 => ?_) (fun c31 => ?_)
  ·
   refine v_ops <| s_pq w <| s_pq (.int .i64 (k : Int)) ?_
   refine s_row (α := Int) [(k : Int)] (fun _ q => seg_i rfl (seg_nil q)) rfl (by simp [maxLen]) (fun r32 h33 eh33 zh33 s_r32 fr_r32 => ?_)
   have E34 := E29.trans eh33
   have z35 := eh33.size
   have f36 := ((s_w.ext eh28).ext eh33)
   refine s_app f36 s_r32 rfl rfl rfl (by simp [maxLen]; omega) (by simp; omega) (fun r37 h38 mh38 zh38 s_r37 ab_r37 => ?_)
   have E39 := E34.mod mh38 (fun b hb => by have := fr_w b hb; omega)
   have fr_r37 := fr_w.app ab_r37 (by omega)
   refine s_pq r37 <| s_nil <| p_blkN <| p_seqN <| v_ops <| s_pure (.int .i64 ((k : Int) + 1)) (fun _ q => ArithVC.mk (by omega) q) <| s_pq (.int .i64 ((k : Int) + 1)) <| s_nil ?_
   exact p_lpN ⟨k + 1, (o ++ [(k : Int)]), r37, ⟨rfl, rfl, rfl, rfl, rfl⟩, ⟨E39, (sl_eq s_r37 (by simp)), (fr_r37.mono (by omega)), (by first | exact ⟨by omega, by rw [ho]; exact (idx_yes (by simp_all)).symm⟩ | exact ⟨by omega, by rw [ho]; exact (idx_no (by simp_all)).symm⟩)⟩, by omega⟩
  have c31 := Classical.not_not.1 c31
  refine v_skip <| p_blkN <| p_seqN <| v_ops <| s_pure (.int .i64 ((k : Int) + 1)) (fun _ q => ArithVC.mk (by omega) q) <| s_pq (.int .i64 ((k : Int) + 1)) <| s_nil ?_
  have f41 := (s_w.ext eh28)
  exact p_lpN ⟨k + 1, o, w, ⟨rfl, rfl, rfl, rfl, rfl⟩, ⟨E29, (sl_eq f41 (by simp)), (fr_w.mono (by omega)), (by first | exact ⟨by omega, by rw [ho]; exact (idx_yes (by simp_all)).symm⟩ | exact ⟨by omega, by rw [ho]; exact (idx_no (by simp_all)).symm⟩)⟩, by omega⟩
 refine v_exit <| p_seqX <| p_lpX <| p_blkX <| p_seqN <| v_seq <| v_ops <| s_pq w <| s_pq w <| s_pq (.bool true) <| s_nil <| p_seqN <| v_ret <| p_ret [w, .bool true] (.tuple #[w, .bool true]) (fun _ q => q) rfl ?_
 have ho : (flOut n l t) = (o, true) := by first | exact if_neg (by rintro ⟨q1, q2, q3⟩; first | contradiction | omega) | (rw [flOut, if_pos ⟨by assumption, by assumption, by omega⟩, ho]; congr 2; omega)
 exact ⟨w, by first | (rw [ho]; done) | rfl, sl_eq s_w (congrArg (fun o => o.1) ho).symm, fr_w.mono (by omega), Eh⟩

set_option maxRecDepth 10000 in
set_option maxHeartbeats 4000000 in
theorem spec_FoggyLinks_ok (n : NetP) (v_n_towers : Value) (v_n_links : Value) (v_l : Value) (l : List FogD) (t : Int) (h : Heap) (s_n_towers : Sl h v_n_towers n.towers) (s_n_links : Sl h v_n_links n.links) (s_l : Sl h v_l l) : Cn f_spec_FoggyLinks [.agg #[v_n_towers, v_n_links], v_l, .int .i64 t] h fun v h' => ∃ r0 : Value, v = .tuple #[r0, .bool ((flOut n l t).2)] ∧ SlO h' r0 ((flOut n l t).1) ∧ Fr h.size r0 ∧ Ext h h' := by
 have l63_n_towers := s_n_towers.len63
 have l63_n_links := s_n_links.len63
 have l63_l := s_l.len63
 refine calls_of r_spec_FoggyLinks ?_
 refine v_seq <| v_ops ?_
 refine s_box [v_n_towers, v_n_links] rfl (fun h2 b1 hbb1 hzb1 eh2 bxb1 => ?_)
 have E3 := (Ext.refl h).trans eh2
 have z4 := eh2.size
 have lbb1 := bxb1.lt
 refine s_pq (.slice none 0 0) <| s_pq (.bool false) <| s_nil <| p_seqN <| v_seq <| v_seq <| v_ops <| s_load (.agg #[v_n_towers, v_n_links]) (fun _ q => bxb1.loadA rfl q) ?_
 have f5 := (s_n_towers.ext eh2)
 have f6 := (s_n_links.ext eh2)
 refine s_call [.agg #[v_n_towers, v_n_links]] rfl (spec_neGood_ok n v_n_towers v_n_links _ f5 f6) ?_
 rintro _ h7 ⟨rfl, eh7⟩
 have E8 := E3.trans eh7
 have z9 := eh7.size
 refine s_pq (.bool (!decide (NetOk n))) <| s_pq (.bool (!decide (NetOk n))) ?_
 refine s_splitT rfl (fun c10 => ?_) (fun c10 => ?_)
 ·
  refine s_pass rfl <| s_pass rfl <| s_pass rfl <| s_pass rfl <| s_pq (.bool true) <| s_pq (.bool true) <| s_splitY rfl rfl <| s_pass rfl <| s_pass rfl <| s_pass rfl <| s_pq (.bool true) <| s_nil <| p_seqN <| v_condY rfl rfl <| v_seq <| v_ops <| s_pq (.slice none 0 0) <| s_pq (.bool false) <| s_nil <| p_seqN <| v_ret <| p_seqR <| p_ret [.slice none 0 0, .bool false] (.tuple #[.slice none 0 0, .bool false]) (fun _ q => q) rfl ?_
  have ho : (flOut n l t) = ([], false) := by first | exact if_neg (by rintro ⟨q1, q2, q3⟩; first | contradiction | omega) | (rw [flOut, if_pos ⟨by assumption, by assumption, by omega⟩, ho]; congr 2; omega)
  exact ⟨(.slice none 0 0), by first | (rw [ho]; done) | rfl, sl_eq (SlX.nil (α := Int) true _) (congrArg (fun o => o.1) ho).symm, Fr.nil _, E8⟩
 have c10 := Classical.not_not.1 c10
 refine s_run rfl ?_
 have f11 := (bxb1.ext eh7)
 refine s_load (.agg #[v_n_towers, v_n_links]) (fun _ q => f11.loadA rfl q) <| s_run rfl <| s_pq v_l <| s_run rfl ?_
 have f12 := (f5.ext eh7)
 have f13 := (f6.ext eh7)
 have f14 := ((s_l.ext eh2).ext eh7)
 refine s_call [.agg #[v_n_towers, v_n_links], v_l] rfl (spec_fgGood_ok n v_n_towers v_n_links v_l l _ f12 f13 f14) ?_
 rintro _ h15 ⟨rfl, eh15⟩
 have E16 := E8.trans eh15
 have z17 := eh15.size
 refine s_run rfl <| s_pq (.bool (!(decide (FogsOk n.links.length l)))) <| s_pq (.bool (!(decide (FogsOk n.links.length l)))) <| s_pq (.bool (!(decide (FogsOk n.links.length l)))) ?_
 refine s_splitT rfl (fun c18 => ?_) (fun c18 => ?_)
 ·
  refine s_pass rfl <| s_pass rfl <| s_pass rfl <| s_pq (.bool true) <| s_nil <| p_seqN <| v_condY rfl rfl <| v_seq <| v_ops <| s_pq (.slice none 0 0) <| s_pq (.bool false) <| s_nil <| p_seqN <| v_ret <| p_seqR <| p_ret [.slice none 0 0, .bool false] (.tuple #[.slice none 0 0, .bool false]) (fun _ q => q) rfl ?_
  have ho : (flOut n l t) = ([], false) := by first | exact if_neg (by rintro ⟨q1, q2, q3⟩; first | contradiction | omega) | (rw [flOut, if_pos ⟨by assumption, by assumption, by omega⟩, ho]; congr 2; omega)
  exact ⟨(.slice none 0 0), by first | (rw [ho]; done) | rfl, sl_eq (SlX.nil (α := Int) true _) (congrArg (fun o => o.1) ho).symm, Fr.nil _, E16⟩
 have c18 := Classical.not_not.1 c18
 refine s_run rfl <| s_pq (.int .i64 t) <| s_run rfl <| s_callS [.int .i64 t] (.bool (decide (0 ≤ t ∧ t ≤ 10000))) rfl (spec_fgTime_ok t _ ) <| s_run rfl <| s_pq (.bool (!(decide (0 ≤ t ∧ t ≤ 10000)))) <| s_pq (.bool (!(decide (0 ≤ t ∧ t ≤ 10000)))) <| s_nil <| p_seqN ?_
 refine v_cond rfl (fun c19 => ?_) (fun c19 => ?_)
 ·
  refine v_seq <| v_ops <| s_pq (.slice none 0 0) <| s_pq (.bool false) <| s_nil <| p_seqN <| v_ret <| p_seqR <| p_ret [.slice none 0 0, .bool false] (.tuple #[.slice none 0 0, .bool false]) (fun _ q => q) rfl ?_
  have ho : (flOut n l t) = ([], false) := by first | exact if_neg (by rintro ⟨q1, q2, q3⟩; first | contradiction | omega) | (rw [flOut, if_pos ⟨by assumption, by assumption, by omega⟩, ho]; congr 2; omega)
  exact ⟨(.slice none 0 0), by first | (rw [ho]; done) | rfl, sl_eq (SlX.nil (α := Int) true _) (congrArg (fun o => o.1) ho).symm, Fr.nil _, E16⟩
 have c19 := Classical.not_not.1 c19
 refine v_skip <| p_seqN <| v_seq <| v_ops <| s_pq (.slice none 0 0) <| s_nil <| p_seqN <| v_seq <| v_seq <| v_ops <| s_pq (.pointer (some ⟨b1, 1, none⟩)) ?_
 have f20 := (f11.ext eh15)
 refine s_load v_n_links (fun _ q => f20.load rfl q) <| s_pure (.int .i64 (n.links.length : Int)) (fun _ q => f13.lenVC q) <| s_pq (.int .i64 0) <| s_nil <| p_seqN <| v_block <| v_loop3 (α := Nat) (β := List Int) (γ := Value) (fun k o w => [(1, v_l), (2, .int .i64 t), (8, w), (26, .int .i64 (n.links.length : Int)), (27, .int .i64 (k : Int))]) (fun k o w hh => Ext h hh ∧ SlO hh w o ∧ Fr h.size w ∧ k ≤ n.links.length ∧ o = idxTo (fun k => !clF l (k : Int) t) k) (fun k o w => n.links.length - k) 0 [] (.slice none 0 0) ⟨rfl, rfl, rfl, rfl, rfl⟩ ⟨E16, (sl_eq (SlX.nil (α := Int) true h15) (by simp)), (Fr.nil _), (by exact ⟨by omega, rfl⟩)⟩ ?_
 rintro k o w R22 h21 ⟨Eh, s_w, fr_w, ⟨hk, ho⟩⟩
 have zEh := Eh.size
 have f26 := s_l.ext Eh
 have h40 := (by assumption : NetOk n).l2
 have hol := idx_len (fun k => !clF l (k : Int) t) k
 rw [← ho] at hol
 refine v_seq <| v_ops <| s_pq (.bool (decide ((k : Int) < (n.links.length : Int)))) <| s_nil <| p_seqN <| v_seq ?_
 refine v_cond rfl (fun c27 => ?_) (fun c27 => ?_)
 ·
  refine v_skip <| p_seqN <| v_seq <| v_block <| v_seq <| v_ops <| s_pq (.int .i64 (k : Int)) <| s_pq (.int .i64 (k : Int)) <| s_nil <| p_seqN <| v_seq <| v_ops <| s_pq v_l <| s_pq (.int .i64 (k : Int)) <| s_pq (.int .i64 t) <| s_call [v_l, .int .i64 (k : Int), .int .i64 t] rfl (spec_fgClear_ok v_l l (k : Int) t _ f26 _ (by assumption : FogsOk n.links.length l)) ?_
  rintro _ h28 ⟨rfl, eh28⟩
  have E29 := Eh.trans eh28
  have z30 := eh28.size
  refine s_pq (.bool (!(clF l (k : Int) t))) <| s_nil <| p_seqN ?_
  refine v_cond rfl (fun c31 => ?_) (fun c31 => ?_)
  ·
   refine v_ops <| s_pq w <| s_pq (.int .i64 (k : Int)) ?_
   refine s_row (α := Int) [(k : Int)] (fun _ q => seg_i rfl (seg_nil q)) rfl (by simp [maxLen]) (fun r32 h33 eh33 zh33 s_r32 fr_r32 => ?_)
   have E34 := E29.trans eh33
   have z35 := eh33.size
   have f36 := ((s_w.ext eh28).ext eh33)
   refine s_app f36 s_r32 rfl rfl rfl (by simp [maxLen]; omega) (by simp; omega) (fun r37 h38 mh38 zh38 s_r37 ab_r37 => ?_)
   have E39 := E34.mod mh38 (fun b hb => by have := fr_w b hb; omega)
   have fr_r37 := fr_w.app ab_r37 (by omega)
   refine s_pq r37 <| s_nil <| p_blkN <| p_seqN <| v_ops <| s_pure (.int .i64 ((k : Int) + 1)) (fun _ q => ArithVC.mk (by omega) q) <| s_pq (.int .i64 ((k : Int) + 1)) <| s_nil ?_
   exact p_lpN ⟨k + 1, (o ++ [(k : Int)]), r37, ⟨rfl, rfl, rfl, rfl, rfl⟩, ⟨E39, (sl_eq s_r37 (by simp)), (fr_r37.mono (by omega)), (by first | exact ⟨by omega, by rw [ho]; exact (idx_yes (by simp_all)).symm⟩ | exact ⟨by omega, by rw [ho]; exact (idx_no (by simp_all)).symm⟩)⟩, by omega⟩
  have c31 := Classical.not_not.1 c31
  refine v_skip <| p_blkN <| p_seqN <| v_ops <| s_pure (.int .i64 ((k : Int) + 1)) (fun _ q => ArithVC.mk (by omega) q) <| s_pq (.int .i64 ((k : Int) + 1)) <| s_nil ?_
  have f41 := (s_w.ext eh28)
  exact p_lpN ⟨k + 1, o, w, ⟨rfl, rfl, rfl, rfl, rfl⟩, ⟨E29, (sl_eq f41 (by simp)), (fr_w.mono (by omega)), (by first | exact ⟨by omega, by rw [ho]; exact (idx_yes (by simp_all)).symm⟩ | exact ⟨by omega, by rw [ho]; exact (idx_no (by simp_all)).symm⟩)⟩, by omega⟩
 refine v_exit <| p_seqX <| p_lpX <| p_blkX <| p_seqN <| v_seq <| v_ops <| s_pq w <| s_pq w <| s_pq (.bool true) <| s_nil <| p_seqN <| v_ret <| p_ret [w, .bool true] (.tuple #[w, .bool true]) (fun _ q => q) rfl ?_
 have ho : (flOut n l t) = (o, true) := by first | exact if_neg (by rintro ⟨q1, q2, q3⟩; first | contradiction | omega) | (rw [flOut, if_pos ⟨by assumption, by assumption, by omega⟩, ho]; congr 2; omega)
 exact ⟨w, by first | (rw [ho]; done) | rfl, sl_eq s_w (congrArg (fun o => o.1) ho).symm, fr_w.mono (by omega), Eh⟩

set_option maxRecDepth 10000 in
set_option maxHeartbeats 4000000 in
theorem spec_neLink_ok (n : NetP) (v_n_towers : Value) (v_n_links : Value) (a : Int) (b : Int) (h : Heap) (s_n_towers : Sl h v_n_towers n.towers) (s_n_links : Sl h v_n_links n.links) : Cn f_spec_neLink [.agg #[v_n_towers, v_n_links], .int .i64 a, .int .i64 b] h fun v h' => v = .int .i64 (firstF (btwB a b) n.links 0) ∧ Ext h h' := by
 have l63_n_towers := s_n_towers.len63
 have l63_n_links := s_n_links.len63
 refine calls_of r_spec_neLink ?_
 refine v_seq <| v_ops ?_
 refine s_box [v_n_towers, v_n_links] rfl (fun h2 b1 hbb1 hzb1 eh2 bxb1 => ?_)
 have E3 := (Ext.refl h).trans eh2
 have z4 := eh2.size
 have lbb1 := bxb1.lt
 refine s_pq (.int .i64 0) <| s_nil <| p_seqN <| v_seq <| v_seq <| v_ops <| s_pq (.pointer (some ⟨b1, 1, none⟩)) <| s_load v_n_links (fun _ q => bxb1.load rfl q) <| s_pure (.int .i64 (n.links.length : Int)) (fun _ q => s_n_links.lenVC q) <| s_pq (.int .i64 0) <| s_nil <| p_seqN <| v_block <| v_loop1 (α := Nat) (fun k => [(1, .int .i64 a), (2, .int .i64 b), (10, v_n_links), (11, .int .i64 (n.links.length : Int)), (12, .int .i64 (k : Int))]) (fun k hh => Ext h hh ∧ k ≤ n.links.length ∧ firstF (btwB a b) n.links 0 = firstF (btwB a b) (n.links.drop k) k) (fun k => n.links.length - k) 0 ⟨rfl, rfl, rfl, rfl, rfl⟩ ⟨E3, (by exact ⟨by omega, rfl⟩)⟩ ?_
 rintro k R6 h5 ⟨Eh, ⟨hk, hF⟩⟩
 have zEh := Eh.size
 have f9 := s_n_links.ext Eh
 refine v_seq <| v_ops <| s_pq (.bool (decide ((k : Int) < (n.links.length : Int)))) <| s_nil <| p_seqN <| v_seq ?_
 refine v_cond rfl (fun c10 => ?_) (fun c10 => ?_)
 ·
  refine v_skip <| p_seqN <| v_seq <| v_block <| v_seq <| v_ops <| s_pq (.int .i64 (k : Int)) ?_
  have hk11 : k < n.links.length := (by first | omega | (simp; omega))
  obtain ⟨x12, hx12⟩ : ∃ x, n.links[k]? = some x := ⟨_, List.getElem?_eq_getElem hk11⟩
  refine s_pure (.pointer (some ⟨sblk v_n_links, soff v_n_links + k * 3, none⟩)) (fun _ q => f9.idx (k := k) rfl hk11 q) <| s_load (.agg #[.int .i64 x12.a, .int .i64 x12.b, .int .i64 x12.delay]) (fun _ q => f9.loadN hx12 rfl q) ?_
  refine s_new (fun h14 b13 hbb13 hzb13 eh14 bxb13 => ?_)
  have E15 := Eh.trans eh14
  have z16 := eh14.size
  have lbb13 := bxb13.lt
  refine s_pq (.int .i64 (k : Int)) ?_
  refine s_stBx (.agg #[.int .i64 x12.a, .int .i64 x12.b, .int .i64 x12.delay]) [.int .i64 x12.a, .int .i64 x12.b, .int .i64 x12.delay] [.int .i64 x12.a, .int .i64 x12.b, .int .i64 x12.delay] bxb13 rfl rfl rfl rfl (by simp) (all_cons rfl (all_cons rfl (all_cons rfl all_nil))) rfl (fun h17 mh17 sh17 bxx18 => ?_)
  have E19 := E15.mod mh17 (fun b hb => by simp at hb; omega)
  refine s_nil <| p_seqN <| v_seq <| v_ops <| s_pq (.pointer (some ⟨b13, 0, none⟩)) <| s_load (.int .i64 x12.a) (fun _ q => bxx18.load rfl q) <| s_pq (.int .i64 a) <| s_pq (.bool (x12.a == a)) <| s_pq (.bool (x12.a == a)) ?_
  refine s_splitT rfl (fun c20 => ?_) (fun c20 => ?_)
  ·
   refine s_run rfl <| s_pq (.pointer (some ⟨b13, 1, none⟩)) <| s_run rfl <| s_load (.int .i64 x12.b) (fun _ q => bxx18.load rfl q) <| s_run rfl <| s_pq (.int .i64 b) <| s_run rfl <| s_pq (.bool (x12.b == b)) <| s_pq (.bool (x12.b == b)) <| s_pq (.bool (x12.b == b)) ?_
   refine s_splitT rfl (fun c21 => ?_) (fun c21 => ?_)
   ·
    refine s_pass rfl <| s_pass rfl <| s_pass rfl <| s_pass rfl <| s_pass rfl <| s_splitU rfl <| s_passU rfl <| s_passU rfl <| s_passU rfl <| s_passU rfl <| s_pass rfl <| s_pq (.bool true) <| s_nil <| p_seqN <| v_condY rfl rfl <| v_seq <| v_ops <| s_pq (.int .i64 (k : Int)) <| s_pq (.int .i64 (k : Int)) <| s_nil <| p_seqN <| v_ret <| p_blkR <| p_seqR <| p_lpR <| p_blkR <| p_seqR <| p_ret [.int .i64 (k : Int)] (.int .i64 (k : Int)) (fun _ q => q) rfl ?_
    have ho : (firstF (btwB a b) n.links 0) = (k : Int) := by first | exact lkF_hit hF (by assumption) (by omega) | exact lkF_end hF (by omega)
    exact ⟨by first | (rw [ho]; done) | rfl, E19⟩
   refine s_run rfl <| s_pq (.pointer (some ⟨b13, 0, none⟩)) <| s_run rfl <| s_load (.int .i64 x12.a) (fun _ q => bxx18.load rfl q) <| s_run rfl <| s_pq (.int .i64 b) <| s_run rfl <| s_pq (.bool (x12.a == b)) <| s_run rfl <| s_pq (.bool (x12.a == b)) ?_
   refine s_splitT rfl (fun c22 => ?_) (fun c22 => ?_)
   ·
    refine s_run rfl <| s_pq (.pointer (some ⟨b13, 1, none⟩)) <| s_run rfl <| s_load (.int .i64 x12.b) (fun _ q => bxx18.load rfl q) <| s_run rfl <| s_pq (.int .i64 a) <| s_run rfl <| s_pq (.bool (x12.b == a)) <| s_run rfl <| s_pq (.bool (x12.b == a)) <| s_pq (.bool (x12.b == a)) <| s_nil <| p_seqN ?_
    refine v_cond rfl (fun c23 => ?_) (fun c23 => ?_)
    ·
     refine v_seq <| v_ops <| s_pq (.int .i64 (k : Int)) <| s_pq (.int .i64 (k : Int)) <| s_nil <| p_seqN <| v_ret <| p_blkR <| p_seqR <| p_lpR <| p_blkR <| p_seqR <| p_ret [.int .i64 (k : Int)] (.int .i64 (k : Int)) (fun _ q => q) rfl ?_
     have ho : (firstF (btwB a b) n.links 0) = (k : Int) := by first | exact lkF_hit hF (by assumption) (by omega) | exact lkF_end hF (by omega)
     exact ⟨by first | (rw [ho]; done) | rfl, E19⟩
    refine v_skip <| p_blkN <| p_seqN <| v_ops <| s_pure (.int .i64 ((k : Int) + 1)) (fun _ q => ArithVC.mk (by omega) q) <| s_pq (.int .i64 ((k : Int) + 1)) <| s_nil ?_
    exact p_lpN ⟨k + 1, ⟨rfl, rfl, rfl, rfl, rfl⟩, ⟨E19, (by exact ⟨by omega, lkF_miss hF (by assumption) (by omega)⟩)⟩, by omega⟩
   refine s_pass rfl <| s_pass rfl <| s_pass rfl <| s_pass rfl <| s_run rfl <| s_pq (.bool false) <| s_pq (.bool false) <| s_nil <| p_seqN <| v_condN rfl (by simp) <| v_skip <| p_blkN <| p_seqN <| v_ops <| s_pure (.int .i64 ((k : Int) + 1)) (fun _ q => ArithVC.mk (by omega) q) <| s_pq (.int .i64 ((k : Int) + 1)) <| s_nil ?_
   exact p_lpN ⟨k + 1, ⟨rfl, rfl, rfl, rfl, rfl⟩, ⟨E19, (by exact ⟨by omega, lkF_miss hF (by assumption) (by omega)⟩)⟩, by omega⟩
  refine s_pass rfl <| s_pass rfl <| s_pass rfl <| s_pass rfl <| s_pq (.bool false) <| s_pq (.bool false) <| s_splitN rfl (by simp) <| s_run rfl <| s_pq (.pointer (some ⟨b13, 0, none⟩)) <| s_run rfl <| s_load (.int .i64 x12.a) (fun _ q => bxx18.load rfl q) <| s_run rfl <| s_pq (.int .i64 b) <| s_run rfl <| s_pq (.bool (x12.a == b)) <| s_run rfl <| s_pq (.bool (x12.a == b)) ?_
  refine s_splitT rfl (fun c24 => ?_) (fun c24 => ?_)
  ·
   refine s_run rfl <| s_pq (.pointer (some ⟨b13, 1, none⟩)) <| s_run rfl <| s_load (.int .i64 x12.b) (fun _ q => bxx18.load rfl q) <| s_run rfl <| s_pq (.int .i64 a) <| s_run rfl <| s_pq (.bool (x12.b == a)) <| s_run rfl <| s_pq (.bool (x12.b == a)) <| s_pq (.bool (x12.b == a)) <| s_nil <| p_seqN ?_
   refine v_cond rfl (fun c25 => ?_) (fun c25 => ?_)
   ·
    refine v_seq <| v_ops <| s_pq (.int .i64 (k : Int)) <| s_pq (.int .i64 (k : Int)) <| s_nil <| p_seqN <| v_ret <| p_blkR <| p_seqR <| p_lpR <| p_blkR <| p_seqR <| p_ret [.int .i64 (k : Int)] (.int .i64 (k : Int)) (fun _ q => q) rfl ?_
    have ho : (firstF (btwB a b) n.links 0) = (k : Int) := by first | exact lkF_hit hF (by assumption) (by omega) | exact lkF_end hF (by omega)
    exact ⟨by first | (rw [ho]; done) | rfl, E19⟩
   refine v_skip <| p_blkN <| p_seqN <| v_ops <| s_pure (.int .i64 ((k : Int) + 1)) (fun _ q => ArithVC.mk (by omega) q) <| s_pq (.int .i64 ((k : Int) + 1)) <| s_nil ?_
   exact p_lpN ⟨k + 1, ⟨rfl, rfl, rfl, rfl, rfl⟩, ⟨E19, (by exact ⟨by omega, lkF_miss hF (by assumption) (by omega)⟩)⟩, by omega⟩
  refine s_pass rfl <| s_pass rfl <| s_pass rfl <| s_pass rfl <| s_run rfl <| s_pq (.bool false) <| s_pq (.bool false) <| s_nil <| p_seqN <| v_condN rfl (by simp) <| v_skip <| p_blkN <| p_seqN <| v_ops <| s_pure (.int .i64 ((k : Int) + 1)) (fun _ q => ArithVC.mk (by omega) q) <| s_pq (.int .i64 ((k : Int) + 1)) <| s_nil ?_
  exact p_lpN ⟨k + 1, ⟨rfl, rfl, rfl, rfl, rfl⟩, ⟨E19, (by exact ⟨by omega, lkF_miss hF (by assumption) (by omega)⟩)⟩, by omega⟩
 refine v_exit <| p_seqX <| p_lpX <| p_blkX <| p_seqN <| v_seq <| v_ops <| s_pq (.int .i64 (-1)) <| s_nil <| p_seqN <| v_ret <| p_ret [.int .i64 (-1)] (.int .i64 (-1)) (fun _ q => q) rfl ?_
 have ho : (firstF (btwB a b) n.links 0) = (-1) := by first | exact lkF_hit hF (by assumption) (by omega) | exact lkF_end hF (by omega)
 exact ⟨by first | (rw [ho]; done) | rfl, Eh⟩

theorem spec_neNext_ok (n : NetP) (v_n_towers : Value) (v_n_links : Value) (a : Int) (h : Heap) (s_n_towers : Sl h v_n_towers n.towers) (s_n_links : Sl h v_n_links n.links) (ht : n.towers.length ≤ 1000) : Cn f_spec_neNext [.agg #[v_n_towers, v_n_links], .int .i64 a] h fun v h' => ∃ r0 : Value, v = r0 ∧ SlO h' r0 (idxTo (fun b => nbB n.links a (b : Int)) n.towers.length) ∧ Fr h.size r0 ∧ Ext h h' := by
 have l63_n_towers := s_n_towers.len63
 have l63_n_links := s_n_links.len63
 refine calls_of r_spec_neNext ?_
 refine v_seq <| v_ops ?_
 refine s_box [v_n_towers, v_n_links] rfl (fun h2 b1 hbb1 hzb1 eh2 bxb1 => ?_)
 have E3 := (Ext.refl h).trans eh2
 have z4 := eh2.size
 have lbb1 := bxb1.lt
 refine s_pq (.slice none 0 0) <| s_nil <| p_seqN <| v_seq <| v_ops <| s_pq (.slice none 0 0) <| s_nil <| p_seqN <| v_seq <| v_seq <| v_ops <| s_pq (.pointer (some ⟨b1, 0, none⟩)) <| s_load v_n_towers (fun _ q => bxb1.load rfl q) <| s_pure (.int .i64 (n.towers.length : Int)) (fun _ q => s_n_towers.lenVC q) <| s_pq (.int .i64 0) <| s_nil <| p_seqN <| v_block <| v_loop3 (α := Nat) (β := List Int) (γ := Value) (fun k o w => [(1, .int .i64 a), (2, .pointer (some ⟨b1, 0, none⟩)), (5, w), (9, .int .i64 (n.towers.length : Int)), (10, .int .i64 (k : Int))]) (fun k o w hh => Ext h hh ∧ Bx hh b1 [v_n_towers, v_n_links] 27 ∧ SlO hh w o ∧ Fr h.size w ∧ b1 ∉ blks w ∧ k ≤ n.towers.length ∧ o = idxTo (fun b => nbB n.links a (b : Int)) k) (fun k o w => n.towers.length - k) 0 [] (.slice none 0 0) ⟨rfl, rfl, rfl, rfl, rfl⟩ ⟨E3, bxb1, (sl_eq (SlX.nil (α := Int) true h2) (by simp)), (Fr.nil _), (by simp [blks, fpts]), (by exact ⟨by omega, rfl⟩)⟩ ?_
 rintro k o w R6 h5 ⟨Eh, bxb1, s_w, fr_w, np_b1_w, ⟨hk, ho⟩⟩
 have zEh := Eh.size
 have f8 := s_n_towers.ext Eh
 have f9 := s_n_links.ext Eh
 have lbb1 := bxb1.lt
 have hol := idx_len (fun b => nbB n.links a (b : Int)) k
 rw [← ho] at hol
 refine v_seq <| v_ops <| s_pq (.bool (decide ((k : Int) < (n.towers.length : Int)))) <| s_nil <| p_seqN <| v_seq ?_
 refine v_cond rfl (fun c10 => ?_) (fun c10 => ?_)
 ·
  refine v_skip <| p_seqN <| v_seq <| v_block <| v_seq <| v_ops <| s_pq (.int .i64 (k : Int)) <| s_pq (.int .i64 (k : Int)) <| s_nil <| p_seqN <| v_seq <| v_ops <| s_load (.agg #[v_n_towers, v_n_links]) (fun _ q => bxb1.loadA rfl q) <| s_pq (.int .i64 a) <| s_pq (.int .i64 (k : Int)) <| s_call [.agg #[v_n_towers, v_n_links], .int .i64 a, .int .i64 (k : Int)] rfl (spec_neLink_ok n v_n_towers v_n_links a (k : Int) _ f8 f9) ?_
  rintro _ h11 ⟨rfl, eh11⟩
  have E12 := Eh.trans eh11
  have z13 := eh11.size
  refine s_pq (.bool (decide ((firstF (btwB a (k : Int)) n.links 0) ≥ 0))) <| s_nil <| p_seqN ?_
  refine v_cond rfl (fun c14 => ?_) (fun c14 => ?_)
  ·
   refine v_ops <| s_pq w <| s_pq (.int .i64 (k : Int)) ?_
   refine s_row (α := Int) [(k : Int)] (fun _ q => seg_i rfl (seg_nil q)) rfl (by simp [maxLen]) (fun r15 h16 eh16 zh16 s_r15 fr_r15 => ?_)
   have E17 := E12.trans eh16
   have z18 := eh16.size
   have f19 := ((s_w.ext eh11).ext eh16)
   refine s_app f19 s_r15 rfl rfl rfl (by simp [maxLen]; omega) (by simp; omega) (fun r20 h21 mh21 zh21 s_r20 ab_r20 => ?_)
   have E22 := E17.mod mh21 (fun b hb => by have := fr_w b hb; omega)
   have fr_r20 := fr_w.app ab_r20 (by omega)
   have np23 : b1 ∉ blks r20 := fun hc => (ab_r20 _ hc).elim np_b1_w (fun hc => by omega)
   refine s_pq r20 <| s_nil <| p_blkN <| p_seqN <| v_ops <| s_pure (.int .i64 ((k : Int) + 1)) (fun _ q => ArithVC.mk (by omega) q) <| s_pq (.int .i64 ((k : Int) + 1)) <| s_nil ?_
   have f25 := (((bxb1.ext eh11).ext eh16).mod mh21 np_b1_w)
   exact p_lpN ⟨k + 1, (o ++ [(k : Int)]), r20, ⟨rfl, rfl, rfl, rfl, rfl⟩, ⟨E22, f25, (sl_eq s_r20 (by simp)), (fr_r20.mono (by omega)), np23, (by first | exact ⟨by omega, by rw [ho]; exact (idx_yes (lkF_nn.1 (by omega))).symm⟩ | exact ⟨by omega, by rw [ho]; exact (idx_no (fun q => absurd (lkF_nn.2 q) (by omega))).symm⟩)⟩, by omega⟩
  refine v_skip <| p_blkN <| p_seqN <| v_ops <| s_pure (.int .i64 ((k : Int) + 1)) (fun _ q => ArithVC.mk (by omega) q) <| s_pq (.int .i64 ((k : Int) + 1)) <| s_nil ?_
  have f26 := (bxb1.ext eh11)
  have f27 := (s_w.ext eh11)
  exact p_lpN ⟨k + 1, o, w, ⟨rfl, rfl, rfl, rfl, rfl⟩, ⟨E12, f26, (sl_eq f27 (by simp)), (fr_w.mono (by omega)), np_b1_w, (by first | exact ⟨by omega, by rw [ho]; exact (idx_yes (lkF_nn.1 (by omega))).symm⟩ | exact ⟨by omega, by rw [ho]; exact (idx_no (fun q => absurd (lkF_nn.2 q) (by omega))).symm⟩)⟩, by omega⟩
 refine v_exit <| p_seqX <| p_lpX <| p_blkX <| p_seqN <| v_seq <| v_ops <| s_pq w <| s_pq w <| s_nil <| p_seqN <| v_ret <| p_ret [w] w (fun _ q => q) rfl ?_
 have ho : (idxTo (fun b => nbB n.links a (b : Int)) n.towers.length) = o := by rw [ho]; congr 1; omega
 exact ⟨w, by first | (rw [ho]; done) | rfl, sl_eq s_w (congrArg (fun o => o) ho).symm, fr_w.mono (by omega), Eh⟩

theorem spec_l1Has_ok (v_l : Value) (l : List Int) (n : Int) (h : Heap) (s_l : Sl h v_l l) : Cn f_spec_l1Has [v_l, .int .i64 n] h fun v h' => v = .bool (decide (n ∈ l)) ∧ Ext h h' := by
 have l63_l := s_l.len63
 refine calls_of r_spec_l1Has ?_
 refine v_seq <| v_ops <| s_pq (.bool false) <| s_nil <| p_seqN <| v_seq <| v_seq <| v_ops <| s_pq v_l <| s_pure (.int .i64 (l.length : Int)) (fun _ q => s_l.lenVC q) <| s_pq (.int .i64 0) <| s_nil <| p_seqN <| v_block <| v_loop1 (α := Nat) (fun k => [(1, .int .i64 n), (7, v_l), (8, .int .i64 (l.length : Int)), (9, .int .i64 (k : Int))]) (fun k hh => Ext h hh ∧ k ≤ l.length ∧ ∀ y ∈ l.take k, y ≠ n) (fun k => l.length - k) 0 ⟨rfl, rfl, rfl, rfl⟩ ⟨(Ext.refl h), (by simp)⟩ ?_
 rintro k R2 h1 ⟨Eh, ⟨hk, hall⟩⟩
 have zEh := Eh.size
 have f4 := s_l.ext Eh
 refine v_seq <| v_ops <| s_pq (.bool (decide ((k : Int) < (l.length : Int)))) <| s_nil <| p_seqN <| v_seq ?_
 refine v_cond rfl (fun c5 => ?_) (fun c5 => ?_)
 ·
  refine v_skip <| p_seqN <| v_seq <| v_block <| v_seq <| v_ops ?_
  have hk6 : k < l.length := (by first | omega | (simp; omega))
  obtain ⟨x7, hx7⟩ : ∃ x, l[k]? = some x := ⟨_, List.getElem?_eq_getElem hk6⟩
  refine s_pure (.pointer (some ⟨sblk v_l, soff v_l + k * 1, none⟩)) (fun _ q => f4.idx (k := k) rfl hk6 q) <| s_load (.int .i64 x7) (fun _ q => f4.load1 hx7 rfl q) <| s_pq (.int .i64 x7) <| s_nil <| p_seqN <| v_seq <| v_ops <| s_pq (.int .i64 x7) <| s_pq (.int .i64 n) <| s_pq (.bool (x7 == n)) <| s_nil <| p_seqN ?_
  refine v_cond rfl (fun c8 => ?_) (fun c8 => ?_)
  ·
   refine v_seq <| v_ops <| s_pq (.bool true) <| s_nil <| p_seqN <| v_ret <| p_blkR <| p_seqR <| p_lpR <| p_blkR <| p_seqR <| p_ret [.bool true] (.bool true) (fun _ q => q) rfl ?_
   have ho : decide (n ∈ l) = true := by first | exact mem_bad (by assumption) (by assumption) | exact mem_end hall (by assumption)
   exact ⟨by first | (rw [ho]; done) | rfl, Eh⟩
  refine v_skip <| p_blkN <| p_seqN <| v_ops <| s_pure (.int .i64 ((k : Int) + 1)) (fun _ q => ArithVC.mk (by omega) q) <| s_pq (.int .i64 ((k : Int) + 1)) <| s_nil ?_
  exact p_lpN ⟨k + 1, ⟨rfl, rfl, rfl, rfl⟩, ⟨Eh, (by exact ⟨by omega, ne_snoc hall (by assumption) (by assumption)⟩)⟩, by omega⟩
 refine v_exit <| p_seqX <| p_lpX <| p_blkX <| p_seqN <| v_seq <| v_ops <| s_pq (.bool false) <| s_nil <| p_seqN <| v_ret <| p_ret [.bool false] (.bool false) (fun _ q => q) rfl ?_
 have ho : decide (n ∈ l) = false := by first | exact mem_bad (by assumption) (by assumption) | exact mem_end hall (by assumption)
 exact ⟨by first | (rw [ho]; done) | rfl, Eh⟩

set_option maxRecDepth 10000 in
set_option maxHeartbeats 4000000 in
theorem spec_l1Put_ok (v_l : Value) (l : List Int) (n : Int) (h : Heap) (s_l : SlO h v_l l) (bl : l.length ≤ 1000000) : Cn f_spec_l1Put [v_l, .int .i64 n] h fun v h' => ∃ r0 : Value, v = r0 ∧ SlO h' r0 (putW l n) ∧ Mod (blks v_l) h h' ∧ ∀ b ∈ blks r0, b ∈ (blks v_l) ∨ h.size ≤ b := by
 have lt_l := s_l.lt
 have l63_l := s_l.len63
 refine calls_of r_spec_l1Put ?_
 refine v_seq <| v_ops <| s_pq (.slice none 0 0) <| s_nil <| p_seqN <| v_seq <| v_ops <| s_pq (.int .i64 0) <| s_nil <| p_seqN <| v_seq <| v_block <| v_loop2 (α := Nat) (β := List Int) (fun k ll => [(0, v_l), (1, .int .i64 n), (5, .int .i64 (k : Int))]) (fun k ll hh => Mod (blks v_l) h hh ∧ SlO hh v_l ll ∧ ll = l ∧ k ≤ ll.length ∧ ∀ y ∈ ll.take k, y < n) (fun k ll => l.length - k) 0 l ⟨rfl, rfl, rfl⟩ ⟨(Mod.refl (blks v_l) h), s_l, (by exact ⟨rfl, by simp⟩)⟩ ?_
 rintro k ll R2 h1 ⟨Eh, s_l, ⟨hll, hk, hall⟩⟩
 have zEh := Eh.size
 have lt_l := s_l.lt
 have hlen : ll.length = l.length := by rw [hll]
 refine v_seq <| v_seq <| v_ops <| s_pq (.int .i64 (k : Int)) <| s_pq v_l <| s_pure (.int .i64 (ll.length : Int)) (fun _ q => s_l.lenVC q) <| s_pq (.bool (decide ((k : Int) < (ll.length : Int)))) <| s_pq (.bool (decide ((k : Int) < (ll.length : Int)))) ?_
 refine s_splitT rfl (fun c4 => ?_) (fun c4 => ?_)
 ·
  refine s_run rfl <| s_pq v_l <| s_run rfl <| s_pq (.int .i64 (k : Int)) <| s_run rfl ?_
  have hk5 : k < ll.length := (by first | omega | (simp; omega))
  obtain ⟨x6, hx6⟩ : ∃ x, ll[k]? = some x := ⟨_, List.getElem?_eq_getElem hk5⟩
  refine s_pure (.pointer (some ⟨sblk v_l, soff v_l + k * 1, none⟩)) (fun _ q => s_l.idx (k := k) rfl hk5 q) <| s_run rfl <| s_load (.int .i64 x6) (fun _ q => s_l.load1 hx6 rfl q) <| s_run rfl <| s_pq (.int .i64 n) <| s_run rfl <| s_pq (.bool (decide (x6 < n))) <| s_pq (.bool (decide (x6 < n))) <| s_nil <| p_seqN ?_
  refine v_cond rfl (fun c7 => ?_) (fun c7 => ?_)
  ·
   refine v_skip <| p_seqN <| v_block <| v_ops <| s_pq (.int .i64 (k : Int)) <| s_pure (.int .i64 ((k : Int) + 1)) (fun _ q => ArithVC.mk (by omega) q) <| s_pq (.int .i64 ((k : Int) + 1)) <| s_nil <| p_blkN ?_
   exact p_lpN ⟨k + 1, ll, ⟨rfl, rfl, rfl⟩, ⟨Eh, (sl_eq s_l rfl), (by exact ⟨hll, by omega, all_lt_snoc hall (by assumption) (by assumption)⟩)⟩, by omega⟩
  refine v_exit <| p_seqX <| p_lpX <| p_blkX <| p_seqN <| v_seq <| v_seq <| v_ops <| s_pq (.int .i64 (k : Int)) <| s_pq v_l <| s_pure (.int .i64 (ll.length : Int)) (fun _ q => s_l.lenVC q) <| s_pq (.bool (decide ((k : Int) < (ll.length : Int)))) <| s_pq (.bool (decide ((k : Int) < (ll.length : Int)))) <| s_splitY rfl (by first | assumption | omega | (simp; done) | (simp; omega) | simp_all) <| s_run rfl <| s_pq v_l <| s_run rfl <| s_pq (.int .i64 (k : Int)) <| s_run rfl <| s_pure (.pointer (some ⟨sblk v_l, soff v_l + k * 1, none⟩)) (fun _ q => s_l.idx (k := k) rfl hk5 q) ?_
  refine s_run rfl <| s_load (.int .i64 x6) (fun _ q => s_l.load1 hx6 rfl q) <| s_run rfl <| s_pq (.int .i64 n) <| s_run rfl <| s_pq (.bool (x6 == n)) <| s_pq (.bool (x6 == n)) <| s_nil <| p_seqN ?_
  refine v_cond rfl (fun c8 => ?_) (fun c8 => ?_)
  ·
   refine v_seq <| v_ops <| s_pq v_l <| s_pq v_l <| s_nil <| p_seqN <| v_ret <| p_seqR <| p_ret [v_l] v_l (fun _ q => q) rfl ?_
   have ho : putW l n = ll := by subst hll; first | exact put_there hall (by assumption) (by assumption) (by assumption) | (rw [put_in hall (by assumption) (by assumption) (by assumption)]; simp; done) | (rw [put_end hall hk (by assumption)]; simp; done)
   exact ⟨v_l, by first | (rw [ho]; done) | rfl, sl_eq s_l (congrArg (fun o => o) ho).symm, Eh, (fun b hb => Or.inl hb)⟩
  refine v_skip <| p_seqN <| v_seq <| v_ops ?_
  refine s_row (α := Int) [] (fun _ q => seg_nil q) rfl (by simp [maxLen]) (fun r9 h10 eh10 zh10 s_r9 fr_r9 => ?_)
  have E11 := Eh.trans (Mod.of_ext eh10 _)
  have z12 := eh10.size
  refine s_pq v_l <| s_pq (.int .i64 (k : Int)) ?_
  have f13 := (s_l.ext eh10)
  obtain ⟨r14, hqr14, s_r14, bk_r14⟩ := f13.toSl.slc (l := 0) (m := k) (by first | omega | (simp; omega)) (by first | omega | (simp; omega))
  simp only [List.drop_zero] at s_r14
  refine s_pure r14 (fun K q => hqr14 _ rfl none (some (.int .i64 (k : Int))) rfl ⟨_, _, rfl, rfl⟩ K q) ?_
  refine s_app s_r9 s_r14 rfl rfl rfl (by simp [maxLen]; omega) (by simp; omega) (fun r15 h16 mh16 zh16 s_r15 ab_r15 => ?_)
  have E17 := E11.new mh16 (fun b hb => .inr (by have := fr_r9 b hb; omega))
  have fr_r15 := fr_r9.app ab_r15 (by omega)
  refine s_pq r15 <| s_nil <| p_seqN <| v_seq <| v_ops <| s_pq r15 <| s_pq (.int .i64 n) ?_
  refine s_row (α := Int) [n] (fun _ q => seg_i rfl (seg_nil q)) rfl (by simp [maxLen]) (fun r18 h19 eh19 zh19 s_r18 fr_r18 => ?_)
  have E20 := E17.trans (Mod.of_ext eh19 _)
  have z21 := eh19.size
  have f22 := (s_r15.ext eh19)
  refine s_app f22 s_r18 rfl rfl rfl (by simp [maxLen]; omega) (by simp; omega) (fun r23 h24 mh24 zh24 s_r23 ab_r23 => ?_)
  have E25 := E20.new mh24 (fun b hb => .inr (by have := fr_r15 b hb; omega))
  have fr_r23 := fr_r15.app ab_r23 (by omega)
  refine s_pq r23 <| s_nil <| p_seqN <| v_seq <| v_ops <| s_pq r23 <| s_pq v_l <| s_pq (.int .i64 (k : Int)) ?_
  have f27 := (((f13.mod mh16 (fun b hb hc => by have := lt_l b hb; have := fr_r9 b hc; omega)).ext eh19).mod mh24 (fun b hb hc => by have := lt_l b hb; have := fr_r15 b hc; omega))
  obtain ⟨r28, hqr28, s_r28, bk_r28⟩ := f27.toSl.slc (l := k) (m := ll.length) (by first | omega | (simp; omega)) (by first | omega | (simp; omega))
  refine s_pure r28 (fun K q => hqr28 _ rfl (some (.int .i64 (k : Int))) none ⟨_, _, rfl, rfl⟩ rfl K q) ?_
  refine s_app s_r23 s_r28 rfl rfl rfl (by simp [maxLen]; omega) (by simp; omega) (fun r29 h30 mh30 zh30 s_r29 ab_r29 => ?_)
  have E31 := E25.new mh30 (fun b hb => .inr (by have := fr_r23 b hb; omega))
  have fr_r29 := fr_r23.app ab_r29 (by omega)
  refine s_pq r29 <| s_nil <| p_seqN <| v_ret <| p_ret [r29] r29 (fun _ q => q) rfl ?_
  have ho : putW l n = ((([] ++ ll.take k) ++ [n]) ++ (ll.take ll.length).drop k) := by subst hll; first | exact put_there hall (by assumption) (by assumption) (by assumption) | (rw [put_in hall (by assumption) (by assumption) (by assumption)]; simp; done) | (rw [put_end hall hk (by assumption)]; simp; done)
  exact ⟨r29, by first | (rw [ho]; done) | rfl, sl_eq s_r29 (congrArg (fun o => o) ho).symm, E31, (fun b hb => Or.inr (fr_r29.mono (by omega) b hb))⟩
 refine s_pass rfl <| s_pass rfl <| s_pass rfl <| s_pass rfl <| s_pass rfl <| s_pass rfl <| s_pq (.bool false) <| s_nil <| p_seqN <| v_condN rfl (by simp) <| v_exit <| p_seqX <| p_lpX <| p_blkX <| p_seqN <| v_seq <| v_seq <| v_ops <| s_pq (.int .i64 (k : Int)) <| s_pq v_l <| s_pure (.int .i64 (ll.length : Int)) (fun _ q => s_l.lenVC q) <| s_pq (.bool (decide ((k : Int) < (ll.length : Int)))) <| s_pq (.bool (decide ((k : Int) < (ll.length : Int)))) <| s_splitN rfl (by first | assumption | omega | (simp; done) | (simp; omega) | simp_all) ?_
 refine s_pass rfl <| s_pass rfl <| s_pass rfl <| s_pass rfl <| s_pass rfl <| s_pass rfl <| s_pq (.bool false) <| s_nil <| p_seqN <| v_condN rfl (by simp) <| v_skip <| p_seqN <| v_seq <| v_ops ?_
 refine s_row (α := Int) [] (fun _ q => seg_nil q) rfl (by simp [maxLen]) (fun r34 h35 eh35 zh35 s_r34 fr_r34 => ?_)
 have E36 := Eh.trans (Mod.of_ext eh35 _)
 have z37 := eh35.size
 refine s_pq v_l <| s_pq (.int .i64 (k : Int)) ?_
 have f38 := (s_l.ext eh35)
 obtain ⟨r39, hqr39, s_r39, bk_r39⟩ := f38.toSl.slc (l := 0) (m := k) (by first | omega | (simp; omega)) (by first | omega | (simp; omega))
 simp only [List.drop_zero] at s_r39
 refine s_pure r39 (fun K q => hqr39 _ rfl none (some (.int .i64 (k : Int))) rfl ⟨_, _, rfl, rfl⟩ K q) ?_
 refine s_app s_r34 s_r39 rfl rfl rfl (by simp [maxLen]; omega) (by simp; omega) (fun r40 h41 mh41 zh41 s_r40 ab_r40 => ?_)
 have E42 := E36.new mh41 (fun b hb => .inr (by have := fr_r34 b hb; omega))
 have fr_r40 := fr_r34.app ab_r40 (by omega)
 refine s_pq r40 <| s_nil <| p_seqN <| v_seq <| v_ops <| s_pq r40 <| s_pq (.int .i64 n) ?_
 refine s_row (α := Int) [n] (fun _ q => seg_i rfl (seg_nil q)) rfl (by simp [maxLen]) (fun r43 h44 eh44 zh44 s_r43 fr_r43 => ?_)
 have E45 := E42.trans (Mod.of_ext eh44 _)
 have z46 := eh44.size
 have f47 := (s_r40.ext eh44)
 refine s_app f47 s_r43 rfl rfl rfl (by simp [maxLen]; omega) (by simp; omega) (fun r48 h49 mh49 zh49 s_r48 ab_r48 => ?_)
 have E50 := E45.new mh49 (fun b hb => .inr (by have := fr_r40 b hb; omega))
 have fr_r48 := fr_r40.app ab_r48 (by omega)
 refine s_pq r48 <| s_nil <| p_seqN <| v_seq <| v_ops <| s_pq r48 <| s_pq v_l <| s_pq (.int .i64 (k : Int)) ?_
 have f52 := (((f38.mod mh41 (fun b hb hc => by have := lt_l b hb; have := fr_r34 b hc; omega)).ext eh44).mod mh49 (fun b hb hc => by have := lt_l b hb; have := fr_r40 b hc; omega))
 obtain ⟨r53, hqr53, s_r53, bk_r53⟩ := f52.toSl.slc (l := k) (m := ll.length) (by first | omega | (simp; omega)) (by first | omega | (simp; omega))
 refine s_pure r53 (fun K q => hqr53 _ rfl (some (.int .i64 (k : Int))) none ⟨_, _, rfl, rfl⟩ rfl K q) ?_
 refine s_app s_r48 s_r53 rfl rfl rfl (by simp [maxLen]; omega) (by simp; omega) (fun r54 h55 mh55 zh55 s_r54 ab_r54 => ?_)
 have E56 := E50.new mh55 (fun b hb => .inr (by have := fr_r48 b hb; omega))
 have fr_r54 := fr_r48.app ab_r54 (by omega)
 refine s_pq r54 <| s_nil <| p_seqN <| v_ret <| p_ret [r54] r54 (fun _ q => q) rfl ?_
 have ho : putW l n = ((([] ++ ll.take k) ++ [n]) ++ (ll.take ll.length).drop k) := by subst hll; first | exact put_there hall (by assumption) (by assumption) (by assumption) | (rw [put_in hall (by assumption) (by assumption) (by assumption)]; simp; done) | (rw [put_end hall hk (by assumption)]; simp; done)
 exact ⟨r54, by first | (rw [ho]; done) | rfl, sl_eq s_r54 (congrArg (fun o => o) ho).symm, E56, (fun b hb => Or.inr (fr_r54.mono (by omega) b hb))⟩

end Go.Proofs.Ytloicopmcagikaa

