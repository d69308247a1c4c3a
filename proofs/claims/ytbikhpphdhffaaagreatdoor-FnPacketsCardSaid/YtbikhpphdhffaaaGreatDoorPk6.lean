/- Messages put together; missing parts. Condition: none. Printed in part by a program. -/
import Derived.Test.YtbikhpphdhffaaaGreatDoorPk5
namespace Go.Proofs.YtbikhpphdhffaaaGreatDoor
open Go.Vc
set_option linter.all false

def ofStep (m : Int) (s : Option (List PkP)) (p : PkP) : Option (List PkP) := s.bind fun out => if p.message = m then (if out.any (fun q => decide (clash p q)) then none else some (out ++ [p])) else some out
def ofL (l : List PkP) (m : Int) : Option (List PkP) := l.foldl (ofStep m) (some [])
theorem ofL_snoc (l : List PkP) (m : Int) (p : PkP) : ofL (l ++ [p]) m = ofStep m (ofL l m) p := by simp [ofL]
theorem of_none (m : Int) : ∀ (l : List PkP), l.foldl (ofStep m) none = none
  | [] => rfl
  | p :: l => by rw [List.foldl_cons]; exact of_none m l
theorem of_skip {l ps : List Pk} {m : Int} {k : Nat} {x : Pk} (h : ofL ((l.map Pk.p).take k) m = some (ps.map Pk.p)) (hx : l[k]? = some x) (hm : x.message ≠ m) : ofL ((l.map Pk.p).take (k + 1)) m = some (ps.map Pk.p) := by
  rw [snoc_get (map_get hx), ofL_snoc, h, ofStep, Option.bind_some, if_neg hm]
theorem of_add {l ps : List Pk} {m : Int} {k : Nat} {x : Pk} (h : ofL ((l.map Pk.p).take k) m = some (ps.map Pk.p)) (hx : l[k]? = some x) (hm : x.message = m) (hc : ¬ ps.any (fun y => decide (clash x.p y.p)) = true) : ofL ((l.map Pk.p).take (k + 1)) m = some ((ps ++ [x]).map Pk.p) := by
  rw [snoc_get (map_get hx), ofL_snoc, h, ofStep, Option.bind_some, if_pos hm, if_neg (by rw [List.any_map]; exact hc), List.map_append]; rfl
theorem of_bad {l ps : List Pk} {m : Int} {k : Nat} {x : Pk} (h : ofL ((l.map Pk.p).take k) m = some (ps.map Pk.p)) (hx : l[k]? = some x) (hm : x.message = m) (hc : ps.any (fun y => decide (clash x.p y.p)) = true) : ofL (l.map Pk.p) m = none := by
  have h1 : ofL ((l.map Pk.p).take (k + 1)) m = none := by
    rw [snoc_get (map_get hx), ofL_snoc, h, ofStep, Option.bind_some, if_pos hm, if_pos (by rw [List.any_map]; exact hc)]
  rw [← List.take_append_drop (k + 1) (l.map Pk.p)]
  unfold ofL at *
  rw [List.foldl_append, h1, of_none]
theorem of_end {l ps : List Pk} {m : Int} {k : Nat} (h : ofL ((l.map Pk.p).take k) m = some (ps.map Pk.p)) (hk : ¬ (k : Int) < (l.length : Int)) : ofL (l.map Pk.p) m = some (ps.map Pk.p) := by
  rwa [take_all (by simpa using hk)] at h
theorem of_mem {m : Int} : ∀ (l out own : List PkP), l.foldl (ofStep m) (some out) = some own → own.length ≤ out.length + l.length ∧ ∀ p ∈ own, p ∈ out ∨ p ∈ l
  | [], out, own, h => by simp at h; subst h; exact ⟨by simp, fun p hp => .inl hp⟩
  | q :: l, out, own, h => by
    rw [List.foldl_cons, ofStep, Option.bind_some] at h
    split at h
    · split at h
      · rw [of_none] at h; cases h
      · obtain ⟨h1, h2⟩ := of_mem l _ own h
        refine ⟨by simp at h1 ⊢; omega, fun p hp => ?_⟩
        rcases h2 p hp with h3 | h3
        · rcases List.mem_append.1 h3 with h3 | h3
          · exact .inl h3
          · obtain rfl := List.mem_singleton.1 h3; exact .inr (List.mem_cons_self ..)
        · exact .inr (List.mem_cons_of_mem _ h3)
    · obtain ⟨h1, h2⟩ := of_mem l _ own h
      exact ⟨by simp at h1 ⊢; omega, fun p hp => (h2 p hp).imp id (List.mem_cons_of_mem _)⟩
theorem of_len {l own : List PkP} {m : Int} (h : ofL l m = some own) : own.length ≤ l.length := by simpa using (of_mem l [] own h).1
theorem of_sub {l own : List PkP} {m : Int} (h : ofL l m = some own) : ∀ p ∈ own, p ∈ l := fun p hp => ((of_mem l [] own h).2 p hp).resolve_left (by simp)
def missTo (own : List PkP) (n : Nat) : List Int := ((List.range n).filter fun k : Nat => !(own.any fun p : PkP => decide (p.part = (k : Int)))).map fun k : Nat => (k : Int)
theorem miss_in {own : List PkP} {n : Nat} (h : own.any (fun p : PkP => decide (p.part = (n : Int))) = false) : missTo own (n + 1) = missTo own n ++ [(n : Int)] := by
  simp only [missTo, List.range_succ, List.filter_append, List.map_append, List.filter_cons, List.filter_nil, h]; rfl
theorem miss_out {own : List PkP} {n : Nat} (h : own.any (fun p : PkP => decide (p.part = (n : Int))) = true) : missTo own (n + 1) = missTo own n := by
  simp only [missTo, List.range_succ, List.filter_append, List.map_append, List.filter_cons, List.filter_nil, h]; simp
theorem miss_len (own : List PkP) (n : Nat) : (missTo own n).length ≤ n := by
  rw [missTo, List.length_map]; exact Nat.le_trans (List.length_filter_le _ _) (by simp)
def partsOf0 (own : List PkP) : Int := match own with | [] => 0 | p :: _ => p.parts
def missOf (own : List PkP) : List Int := missTo own (partsOf0 own).toNat
theorem parts_at {own : List Pk} {x : Pk} (h : own[0]? = some x) : partsOf0 (own.map Pk.p) = x.parts := by
  cases own with
  | nil => simp at h
  | cons p l => simp at h; subst h; rfl
theorem miss_none {own : List PkP} {n : Nat} (h : (missTo own n).length ≤ 0) : ∀ k, k < n → own.any (fun p : PkP => decide (p.part = (k : Int))) = true := by
  intro k hk
  have h0 : missTo own n = [] := List.eq_nil_of_length_eq_zero (by omega)
  cases hb : own.any (fun p : PkP => decide (p.part = (k : Int))) with
  | true => rfl
  | false =>
    have : (k : Int) ∈ missTo own n := List.mem_map.2 ⟨k, List.mem_filter.2 ⟨List.mem_range.2 hk, by rw [hb]; rfl⟩, rfl⟩
    rw [h0] at this; cases this
def joinTo (own : List PkP) (n : Nat) : List Int := (List.range n).flatMap fun k : Nat => match own.find? (fun p : PkP => decide (p.part = (k : Int))) with | some p => p.signals | none => []
theorem join_succ {own : List PkP} {n : Nat} {p : PkP} (h : own.find? (fun p : PkP => decide (p.part = (n : Int))) = some p) : joinTo own (n + 1) = joinTo own n ++ p.signals := by
  simp only [joinTo, List.range_succ, List.flatMap_append, List.flatMap_cons, List.flatMap_nil, List.append_nil, h]
theorem firstF_ge {α : Type} (p : α → Bool) : ∀ (xs : List α) (i : Nat), firstF p xs i = -1 ∨ (i : Int) ≤ firstF p xs i
  | [], i => .inl rfl
  | x :: xs, i => by
    simp only [firstF]
    cases p x with
    | true => right; simp
    | false =>
      rcases firstF_ge p xs (i + 1) with h | h
      · exact .inl (by simpa using h)
      · right; simp only [cond_false]; omega
theorem find_first {own : List Pk} {k : Int} {i : Nat} {y : Pk} (hy : own[i]? = some y) (hi : firstF (fun x : Pk => decide (x.p.part = k)) own 0 = (i : Int)) : (own.map Pk.p).find? (fun p : PkP => decide (p.part = k)) = some y.p := by
  have gen : ∀ (own : List Pk) (o i : Nat) (y : Pk), own[i]? = some y → firstF (fun x : Pk => decide (x.p.part = k)) own o = ((o + i : Nat) : Int) → (own.map Pk.p).find? (fun p : PkP => decide (p.part = k)) = some y.p := by
    intro own
    induction own with
    | nil => intro o i y hy; simp at hy
    | cons q l ih =>
      intro o i y hy h
      simp only [firstF] at h
      simp only [List.map_cons, List.find?_cons]
      cases hq : decide (q.p.part = k) with
      | true =>
        rw [hq] at h
        simp only [cond_true] at h
        obtain rfl : i = 0 := by omega
        simp at hy; subst hy; rfl
      | false =>
        rw [hq] at h
        simp only [cond_false] at h
        cases i with
        | zero =>
          exfalso
          rcases firstF_ge (fun x : Pk => decide (x.p.part = k)) l (o + 1) with h2 | h2 <;> (rw [h] at h2; omega)
        | succ i => exact ih (o + 1) i y (by simpa using hy) (by rw [h]; congr 1; omega)
  exact gen own 0 i y hy (by rw [hi]; omega)
theorem join_len {own : List PkP} (h : ∀ p ∈ own, p.signals.length ≤ 8) (n : Nat) : (joinTo own n).length ≤ 8 * n := by
  induction n with
  | zero => simp [joinTo]
  | succ n ih =>
    have e : joinTo own (n + 1) = joinTo own n ++ (match own.find? (fun p : PkP => decide (p.part = (n : Int))) with | some p => p.signals | none => []) := by
      simp only [joinTo, List.range_succ, List.flatMap_append, List.flatMap_cons, List.flatMap_nil, List.append_nil]
    rw [e, List.length_append]
    have : (match own.find? (fun p : PkP => decide (p.part = (n : Int))) with | some p => p.signals | none => []).length ≤ 8 := by
      split
      · rename_i p hp; exact h p (List.mem_of_find?_eq_some hp)
      · simp
    omega
noncomputable def pkfOut (l : List PkP) (m : Int) : List PkP × Bool := if PksOk l ∧ 1 ≤ m ∧ m ≤ 999 then (match ofL l m with | some own => (own, decide (0 < own.length)) | none => ([], false)) else ([], false)
theorem pkf_no {l : List PkP} {m : Int} (h : ¬ (PksOk l ∧ 1 ≤ m ∧ m ≤ 999)) : pkfOut l m = ([], false) := by rw [pkfOut, if_neg h]
theorem pkf_bad {l : List PkP} {m : Int} (h : ofL l m = none) : pkfOut l m = ([], false) := by unfold pkfOut; rw [h]; split <;> rfl
theorem pkf_yes {l : List PkP} {m : Int} {own : List PkP} (h : PksOk l) (hm : 1 ≤ m ∧ m ≤ 999) (ho : ofL l m = some own) : pkfOut l m = (own, decide (0 < own.length)) := by rw [pkfOut, if_pos ⟨h, hm⟩, ho]
theorem pkf_ask {l : List PkP} {m : Int} (h : (pkfOut l m).2 = true) : (PksOk l ∧ 1 ≤ m ∧ m ≤ 999) ∧ ofL l m = some (pkfOut l m).1 ∧ 0 < (pkfOut l m).1.length := by
  unfold pkfOut at h ⊢
  split at h
  · rename_i c
    rw [if_pos c]
    split at h
    · rename_i own ho
      rw [ho]
      exact ⟨c, rfl, of_decide_eq_true h⟩
    · cases h
  · cases h
theorem pkf_parts {l : List PkP} {m : Int} (h : (pkfOut l m).2 = true) : (∀ p ∈ (pkfOut l m).1, PkOk p) ∧ partsOf0 (pkfOut l m).1 ≤ 9 := by
  obtain ⟨c, ho, hl⟩ := pkf_ask h
  have h1 : ∀ p ∈ (pkfOut l m).1, PkOk p := fun p hp => c.1.2 p (of_sub ho p hp)
  refine ⟨h1, ?_⟩
  cases hq : (pkfOut l m).1 with
  | nil => rw [hq] at hl; simp at hl
  | cons p r =>
    have := h1 p (by rw [hq]; exact List.mem_cons_self ..)
    exact this.2.1.2
noncomputable def msOut (l : List PkP) (m : Int) : List Int × Bool := if (pkfOut l m).2 = true then (missOf (pkfOut l m).1, true) else ([], false)
noncomputable def jnOut (l : List PkP) (m : Int) : List Int × Bool := if (pkfOut l m).2 = true ∧ (missOf (pkfOut l m).1).length ≤ 0 then (joinTo (pkfOut l m).1 (partsOf0 (pkfOut l m).1).toNat, true) else ([], false)
theorem ms_no {l : List PkP} {m : Int} (h : ¬ (pkfOut l m).2 = true) : msOut l m = ([], false) := by rw [msOut, if_neg h]
theorem ms_yes {l : List PkP} {m : Int} (h : (pkfOut l m).2 = true) : msOut l m = (missOf (pkfOut l m).1, true) := by rw [msOut, if_pos h]
theorem jn_no {l : List PkP} {m : Int} (h : ¬ ((pkfOut l m).2 = true ∧ (missOf (pkfOut l m).1).length ≤ 0)) : jnOut l m = ([], false) := by rw [jnOut, if_neg h]
theorem jn_yes {l : List PkP} {m : Int} (h : (pkfOut l m).2 = true) (h0 : (missOf (pkfOut l m).1).length ≤ 0) : jnOut l m = (joinTo (pkfOut l m).1 (partsOf0 (pkfOut l m).1).toNat, true) := by rw [jnOut, if_pos ⟨h, h0⟩]
theorem ms_len (l : List PkP) (m : Int) : (msOut l m).1.length ≤ 9 := by
  unfold msOut
  split
  · rename_i h
    have h1 := pkf_parts h
    have h2 := miss_len (pkfOut l m).1 (partsOf0 (pkfOut l m).1).toNat
    simp only [missOf]; omega
  · simp
theorem jn_len (l : List PkP) (m : Int) : (jnOut l m).1.length ≤ 72 := by
  unfold jnOut
  split
  · rename_i h
    have h1 := pkf_parts h.1
    have h2 := join_len (own := (pkfOut l m).1) (fun p hp => by have := (h1.1 p hp).2.2.2.1.2; omega) (partsOf0 (pkfOut l m).1).toNat
    simp only; omega
  · simp

end Go.Proofs.YtbikhpphdhffaaaGreatDoor
