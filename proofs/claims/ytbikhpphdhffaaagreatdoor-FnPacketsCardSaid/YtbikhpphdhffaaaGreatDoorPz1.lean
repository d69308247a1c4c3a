/- Messages split into packets and put together again: plain facts. Condition: none. -/
import Derived.Test.YtbikhpphdhffaaaGreatDoorPk7
namespace Go.Proofs.YtbikhpphdhffaaaGreatDoor
open Go.Vc
set_option linter.all false
set_option maxRecDepth 10000
theorem clash_sym {a b : PkP} (h : clash a b) : clash b a := ⟨h.1.symm, h.2.imp Ne.symm fun q => ⟨q.1.symm, Ne.symm q.2⟩⟩
theorem clash_irr (a : PkP) : ¬ clash a a := fun h => h.2.elim (fun q => q rfl) fun q => q.2 rfl
abbrev NC (l : List PkP) : Prop := ∀ p ∈ l, ∀ q ∈ l, ¬ clash p q
abbrev msgF (m : Int) (l : List PkP) : List PkP := l.filter fun p => decide (p.message = m)
theorem of_nc {m : Int} : ∀ (l out : List PkP), NC (out ++ msgF m l) → l.foldl (ofStep m) (some out) = some (out ++ msgF m l)
  | [], out, _ => by simp
  | p :: l, out, h => by
    rw [List.foldl_cons]
    by_cases c : p.message = m
    · have e : msgF m (p :: l) = p :: msgF m l := by simp [c]
      rw [e] at h ⊢
      have hn : ¬ out.any (fun q => decide (clash p q)) = true := by
        intro hc
        obtain ⟨q, hq, hq2⟩ := List.any_eq_true.1 hc
        exact h p (by simp) q (by simp [hq]) (of_decide_eq_true hq2)
      have e2 : ofStep m (some out) p = some (out ++ [p]) := by
        unfold ofStep
        rw [Option.bind_some, if_pos c, if_neg hn]
      rw [e2, of_nc l (out ++ [p]) (by rw [List.append_assoc]; exact h), List.append_assoc]; rfl
    · have e : msgF m (p :: l) = msgF m l := by simp [c]
      have e2 : ofStep m (some out) p = some out := by
        unfold ofStep
        rw [Option.bind_some, if_neg c]
      rw [e] at h ⊢
      rw [e2]; exact of_nc l out h
theorem of_some {m : Int} : ∀ (l out own : List PkP), l.foldl (ofStep m) (some out) = some own → NC out → own = out ++ msgF m l ∧ NC own
  | [], out, own, h, hn => by
    obtain rfl := Option.some.inj h
    exact ⟨by simp, hn⟩
  | p :: l, out, own, h, hn => by
    rw [List.foldl_cons] at h
    by_cases c : p.message = m
    · have e : msgF m (p :: l) = p :: msgF m l := by simp [c]
      by_cases hc : out.any (fun q => decide (clash p q)) = true
      · have e2 : ofStep m (some out) p = none := by
          unfold ofStep
          rw [Option.bind_some, if_pos c, if_pos hc]
        rw [e2, of_none] at h; cases h
      · have e2 : ofStep m (some out) p = some (out ++ [p]) := by
          unfold ofStep
          rw [Option.bind_some, if_pos c, if_neg hc]
        rw [e2] at h
        have hn2 : NC (out ++ [p]) := by
          have hq : ∀ q ∈ out, ¬ clash p q := fun q hq hcl => hc (List.any_eq_true.2 ⟨q, hq, decide_eq_true hcl⟩)
          intro a ha b hb
          rcases List.mem_append.1 ha with ha | ha
          · rcases List.mem_append.1 hb with hb | hb
            · exact hn a ha b hb
            · rw [List.mem_singleton.1 hb]
              exact fun hcl => hq a ha (clash_sym hcl)
          · rw [List.mem_singleton.1 ha]
            rcases List.mem_append.1 hb with hb | hb
            · exact hq b hb
            · rw [List.mem_singleton.1 hb]
              exact clash_irr _
        obtain ⟨h1, h2⟩ := of_some l (out ++ [p]) own h hn2
        exact ⟨by rw [h1, e, List.append_assoc]; rfl, h2⟩
    · have e : msgF m (p :: l) = msgF m l := by simp [c]
      have e2 : ofStep m (some out) p = some out := by
        unfold ofStep
        rw [Option.bind_some, if_neg c]
      rw [e2] at h
      rw [e]; exact of_some l out own h hn
theorem of_iff (l : List PkP) (m : Int) : (NC (msgF m l) → ofL l m = some (msgF m l)) ∧ (¬ NC (msgF m l) → ofL l m = none) := by
  refine ⟨fun h => by have := of_nc l [] (m := m) (by simpa using h); simpa [ofL] using this, fun h => ?_⟩
  cases ho : ofL l m with
  | none => rfl
  | some own =>
    have := of_some l [] own ho (fun p hp => by simp at hp)
    rw [List.nil_append] at this
    rw [this.1] at this
    exact absurd this.2 h
theorem any_mem {a b : List PkP} (h : ∀ p, p ∈ a ↔ p ∈ b) (f : PkP → Bool) : a.any f = b.any f := by
  rw [Bool.eq_iff_iff, List.any_eq_true, List.any_eq_true]
  exact ⟨fun ⟨x, h1, h2⟩ => ⟨x, (h x).1 h1, h2⟩, fun ⟨x, h1, h2⟩ => ⟨x, (h x).2 h1, h2⟩⟩
theorem msg_all {m : Int} {l : List PkP} : ∀ p ∈ msgF m l, p.message = m := fun p hp => of_decide_eq_true (List.mem_filter.1 hp).2
theorem nc_parts {a b : PkP} {m : Int} (h : ¬ clash a b) (ha : a.message = m) (hb : b.message = m) : a.parts = b.parts ∧ (a.part = b.part → a.signals = b.signals) := by
  have e : a.message = b.message := ha.trans hb.symm
  refine ⟨Classical.byContradiction fun hc => h ⟨e, .inl hc⟩, fun hp => Classical.byContradiction fun hc => h ⟨e, .inr ⟨hp, hc⟩⟩⟩
theorem jn_set {l l' : List PkP} (h : PksOk l) (h' : PksOk l') (hm : ∀ p, p ∈ l ↔ p ∈ l') (m : Int) : jnOut l m = jnOut l' m := by
  have hf : ∀ p, p ∈ msgF m l ↔ p ∈ msgF m l' := fun p => by
    rw [List.mem_filter, List.mem_filter, hm p]
  have hnc : NC (msgF m l) ↔ NC (msgF m l') := ⟨fun k p hp q hq => k p ((hf p).2 hp) q ((hf q).2 hq), fun k p hp q hq => k p ((hf p).1 hp) q ((hf q).1 hq)⟩
  by_cases hmm : 1 ≤ m ∧ m ≤ 999
  · by_cases c : NC (msgF m l)
    · have e1 := pkf_yes h hmm ((of_iff l m).1 c)
      have e2 := pkf_yes h' hmm ((of_iff l' m).1 (hnc.1 c))
      have epart : partsOf0 (msgF m l) = partsOf0 (msgF m l') := by
        cases ha : msgF m l with
        | nil =>
          cases hb : msgF m l' with
          | nil => rfl
          | cons q r => exact absurd ((hf q).2 (by rw [hb]; simp)) (by rw [ha]; simp)
        | cons p r =>
          cases hb : msgF m l' with
          | nil => exact absurd ((hf p).1 (by rw [ha]; simp)) (by rw [hb]; simp)
          | cons q s =>
            have hp : p ∈ msgF m l := by rw [ha]; simp
            have hq : q ∈ msgF m l := (hf q).2 (by rw [hb]; simp)
            exact (nc_parts (c p hp q hq) (msg_all p hp) (msg_all q hq)).1
      have emiss : missOf (msgF m l) = missOf (msgF m l') := by
        unfold missOf missTo
        rw [epart]
        congr 1
        refine List.filter_congr fun k _ => ?_
        rw [any_mem hf]
      have ejoin : joinTo (msgF m l) (partsOf0 (msgF m l)).toNat = joinTo (msgF m l') (partsOf0 (msgF m l')).toNat := by
        rw [epart]
        unfold joinTo
        congr 1
        funext k
        cases ha : (msgF m l).find? (fun p : PkP => decide (p.part = (k : Int))) with
        | none =>
          cases hb : (msgF m l').find? (fun p : PkP => decide (p.part = (k : Int))) with
          | none => rfl
          | some q =>
            have hq := List.mem_of_find?_eq_some hb
            have := List.find?_eq_none.1 ha q ((hf q).2 hq)
            exact absurd (List.find?_some hb) this
        | some p =>
          cases hb : (msgF m l').find? (fun p : PkP => decide (p.part = (k : Int))) with
          | none =>
            have hp := List.mem_of_find?_eq_some ha
            have := List.find?_eq_none.1 hb p ((hf p).1 hp)
            exact absurd (List.find?_some ha) this
          | some q =>
            have hp := List.mem_of_find?_eq_some ha
            have hq := (hf q).2 (List.mem_of_find?_eq_some hb)
            have p1 : p.part = (k : Int) := by have := List.find?_some ha; simpa using this
            have p2 : q.part = (k : Int) := by have := List.find?_some hb; simpa using this
            exact (nc_parts (c p hp q hq) (msg_all p hp) (msg_all q hq)).2 (p1.trans p2.symm)
      have epos : (0 < (msgF m l).length) ↔ (0 < (msgF m l').length) := by
        rw [List.length_pos_iff_exists_mem, List.length_pos_iff_exists_mem]
        exact ⟨fun ⟨x, hx⟩ => ⟨x, (hf x).1 hx⟩, fun ⟨x, hx⟩ => ⟨x, (hf x).2 hx⟩⟩
      unfold jnOut
      rw [e1, e2]
      simp only [decide_eq_true_eq]
      rw [emiss, ejoin]
      by_cases cp : 0 < (msgF m l).length ∧ (missOf (msgF m l')).length ≤ 0
      · rw [if_pos cp, if_pos ⟨epos.1 cp.1, cp.2⟩]
      · rw [if_neg cp, if_neg fun hc => cp ⟨epos.2 hc.1, hc.2⟩]
    · rw [jn_no (by rw [pkf_bad ((of_iff l m).2 c)]; simp), jn_no (by rw [pkf_bad ((of_iff l' m).2 fun k => c (hnc.2 k))]; simp)]
  · rw [jn_no (by rw [pkf_no fun hc => hmm hc.2]; simp), jn_no (by rw [pkf_no fun hc => hmm hc.2]; simp)]
theorem jn_clash {l : List PkP} {p q : PkP} (hp : p ∈ l) (hq : q ∈ l) (h : clash p q) : (jnOut l p.message).2 = false := by
  have hn : ¬ NC (msgF p.message l) := fun k => k p (List.mem_filter.2 ⟨hp, by simp⟩) q (List.mem_filter.2 ⟨hq, by simp [h.1]⟩) h
  rw [jn_no (by rw [pkf_bad ((of_iff l p.message).2 hn)]; simp)]

/-- a message split and put together again -/
theorem sm_mem {m : Int} {sig : List Int} {sz n : Int} {k : Nat} {p : PkP} (h : p ∈ smL m sig sz n k) : ∃ j : Nat, j < k ∧ p = ⟨m, (j : Int), n, smPart sig sz j⟩ := by
  unfold smL at h
  obtain ⟨j, hj, e⟩ := List.mem_map.1 h
  exact ⟨j, List.mem_range.1 hj, e.symm⟩
theorem sm_all {m : Int} {sig : List Int} {sz n : Int} {k j : Nat} (h : j < k) : (⟨m, (j : Int), n, smPart sig sz j⟩ : PkP) ∈ smL m sig sz n k := List.mem_map.2 ⟨j, List.mem_range.2 h, rfl⟩
theorem smL_len (m : Int) (sig : List Int) (sz n : Int) (k : Nat) : (smL m sig sz n k).length = k := by simp [smL]
theorem smPart_in {sig : List Int} {sz : Int} {j : Nat} : ∀ x ∈ smPart sig sz j, x ∈ sig := fun x hx => List.mem_of_mem_take (List.mem_of_mem_drop hx)
theorem smPart_len {sig : List Int} {sz : Int} {j : Nat} (h1 : 1 ≤ sz) (h : (j : Int) * sz < (sig.length : Int)) : 1 ≤ ((smPart sig sz j).length : Int) ∧ ((smPart sig sz j).length : Int) ≤ sz := by
  obtain ⟨h2, h3⟩ := sm_mul (k := j) h1
  unfold smPart
  rw [List.length_drop, List.length_take, h3]
  generalize (j : Int) * sz = a at *
  split <;> omega
theorem sm_top {l sz : Int} (h1 : 1 ≤ sz) : l ≤ ((l + sz - 1) / sz) * sz := by
  have := Int.lt_ediv_add_one_mul_self (l + sz - 1) (show 0 < sz by omega)
  rw [Int.add_mul, Int.one_mul] at this
  omega
theorem sm_lt {l sz : Int} {j : Nat} (h1 : 1 ≤ sz) (h : (j : Int) < (l + sz - 1) / sz) : (j : Int) * sz < l := by
  have h2 := sm_at h1 h
  obtain ⟨_, h3⟩ := sm_mul (k := j) h1
  omega
theorem sm_one {l sz : Int} (h1 : 1 ≤ sz) (h : 1 ≤ l) : 1 ≤ (l + sz - 1) / sz := Int.le_ediv_of_mul_le (by omega) (by omega)
theorem sm_good {m : Int} {sig : List Int} {sz : Int} (h : smOk m sig sz) : ∀ p ∈ (smOut m sig sz).1, PkOk p := by
  intro p hp
  rw [smOut, if_pos h] at hp
  obtain ⟨⟨m1, m2⟩, ⟨s1, s2⟩, h0, hin, h9⟩ := h
  obtain ⟨j, hj, rfl⟩ := sm_mem hp
  have hn1 := sm_one (l := (sig.length : Int)) s1 (by omega)
  have hn9 := (sm_div (l := (sig.length : Int)) s1 s2 (by omega)).2 h9
  have hlt := sm_lt (l := (sig.length : Int)) (j := j) s1 (by omega)
  have hpl := smPart_len (sig := sig) s1 hlt
  exact ⟨⟨m1, m2⟩, ⟨hn1, hn9⟩, ⟨by show (0 : Int) ≤ (j : Int); omega, by show (j : Int) ≤ ((sig.length : Int) + sz - 1) / sz - 1; omega⟩, ⟨hpl.1, by have := hpl.2; show ((smPart sig sz j).length : Int) ≤ 8; omega⟩, fun x hx => hin x (smPart_in x hx)⟩
theorem sm_nine {m : Int} {sig : List Int} {sz : Int} : (smOut m sig sz).1.length ≤ 9 := by
  by_cases h : smOk m sig sz
  · rw [smOut, if_pos h]
    show (smL _ _ _ _ _).length ≤ 9
    rw [smL_len]
    have := (sm_div (l := (sig.length : Int)) h.2.1.1 h.2.1.2 (by omega)).2 h.2.2.2.2
    omega
  · rw [sm_no h]; simp
theorem sm_nc {m : Int} {sig : List Int} {sz n : Int} {k : Nat} : NC (smL m sig sz n k) := by
  intro p hp q hq hc
  obtain ⟨i, _, rfl⟩ := sm_mem hp
  obtain ⟨j, _, rfl⟩ := sm_mem hq
  obtain ⟨_, hc | hc⟩ := hc
  · exact hc rfl
  · have e : i = j := Int.ofNat.inj hc.1
    subst e
    exact hc.2 rfl
theorem sm_find {m : Int} {sig : List Int} {sz n : Int} {N k : Nat} (h : k < N) : (smL m sig sz n N).find? (fun p : PkP => decide (p.part = (k : Int))) = some ⟨m, (k : Int), n, smPart sig sz k⟩ := by
  have hm := sm_all (m := m) (sig := sig) (sz := sz) (n := n) h
  cases hf : (smL m sig sz n N).find? (fun p : PkP => decide (p.part = (k : Int))) with
  | none => exact absurd (List.find?_eq_none.1 hf _ hm) (by simp)
  | some q =>
    obtain ⟨j, _, rfl⟩ := sm_mem (List.mem_of_find?_eq_some hf)
    have hq := List.find?_some hf
    have e : j = k := Int.ofNat.inj (of_decide_eq_true hq)
    rw [e]
theorem sm_cat {sig : List Int} {sz : Int} {k : Nat} (h1 : 1 ≤ sz) (h : (k : Int) * sz < (sig.length : Int)) : sig.take ((k : Int) * sz).toNat ++ smPart sig sz k = sig.take (((k : Int) + 1) * sz).toNat := by
  obtain ⟨h2, h3⟩ := sm_mul (k := k) h1
  unfold smPart
  rw [h3]
  generalize (k : Int) * sz = a at *
  have key : ∀ M : Nat, a.toNat ≤ M → sig.take a.toNat ++ (sig.take M).drop a.toNat = sig.take M := fun M hM => by
    have := List.take_append_drop a.toNat (sig.take M)
    rw [List.take_take, Nat.min_eq_left hM] at this
    exact this
  split
  · exact key _ (by omega)
  · rw [key _ (by omega), List.take_of_length_le (by omega), List.take_of_length_le (by omega)]
theorem sm_joinTo {m : Int} {sig : List Int} {sz n : Int} {N : Nat} (h1 : 1 ≤ sz) (hN : ∀ j : Nat, j < N → (j : Int) * sz < (sig.length : Int)) : ∀ k : Nat, k ≤ N → joinTo (smL m sig sz n N) k = sig.take ((k : Int) * sz).toNat := by
  intro k
  induction k with
  | zero => intro _; simp [joinTo]
  | succ k ih =>
    intro hk
    rw [join_succ (sm_find (by omega)), ih (by omega), sm_cat h1 (hN k (by omega))]
    congr 2
theorem jn_split {m : Int} {sig : List Int} {sz : Int} (h : smOk m sig sz) : jnOut (smOut m sig sz).1 m = (sig, true) := by
  have hok : PksOk (smOut m sig sz).1 := ⟨Nat.le_trans sm_nine (by decide), sm_good h⟩
  have e : (smOut m sig sz).1 = smL m sig sz (((sig.length : Int) + sz - 1) / sz) (((sig.length : Int) + sz - 1) / sz).toNat := by rw [smOut, if_pos h]
  rw [e] at hok ⊢
  obtain ⟨hm, ⟨s1, s2⟩, h0, hin, h9⟩ := h
  have hn1 := sm_one (l := (sig.length : Int)) s1 (by omega)
  have htop := sm_top (l := (sig.length : Int)) s1
  have hlt : ∀ j : Nat, j < (((sig.length : Int) + sz - 1) / sz).toNat → (j : Int) * sz < (sig.length : Int) := fun j hj => sm_lt s1 (by omega)
  generalize ((sig.length : Int) + sz - 1) / sz = n at *
  have hf : msgF m (smL m sig sz n n.toNat) = smL m sig sz n n.toNat := List.filter_eq_self.2 fun p hp => by
    obtain ⟨j, _, rfl⟩ := sm_mem hp
    simp
  have hof := (of_iff (smL m sig sz n n.toNat) m).1 (by rw [hf]; exact sm_nc)
  rw [hf] at hof
  have hpk := pkf_yes hok hm hof
  have hpos : 0 < (smL m sig sz n n.toNat).length := by rw [smL_len]; omega
  have hparts : partsOf0 (smL m sig sz n n.toNat) = n := by
    cases hs : smL m sig sz n n.toNat with
    | nil => rw [hs] at hpos; simp at hpos
    | cons p r =>
      obtain ⟨j, _, e⟩ := sm_mem (m := m) (sig := sig) (sz := sz) (n := n) (k := n.toNat) (p := p) (by rw [hs]; exact List.mem_cons_self ..)
      rw [partsOf0, e]
  have hmiss : missOf (smL m sig sz n n.toNat) = [] := by
    unfold missOf missTo
    rw [hparts, List.filter_eq_nil_iff.2, List.map_nil]
    intro k hk
    rw [List.mem_range] at hk
    have : (smL m sig sz n n.toNat).any (fun p : PkP => decide (p.part = (k : Int))) = true := List.any_eq_true.2 ⟨_, sm_all (m := m) (sig := sig) (sz := sz) (n := n) hk, decide_eq_true rfl⟩
    rw [this]; simp
  rw [jn_yes (by rw [hpk]; simpa using hpos) (by rw [hpk]; simp [hmiss]), hpk]
  simp only
  rw [hparts, sm_joinTo s1 hlt _ (Nat.le_refl _), List.take_of_length_le]
  rw [show ((n.toNat : Nat) : Int) = n by omega]
  omega
theorem ms_of_jn {l : List PkP} {m : Int} (h : (jnOut l m).2 = true) : msOut l m = ([], true) := by
  by_cases c : (pkfOut l m).2 = true ∧ (missOf (pkfOut l m).1).length ≤ 0
  · rw [ms_yes c.1, List.eq_nil_of_length_eq_zero (Nat.le_zero.1 c.2)]
  · rw [jn_no c] at h; cases h
theorem jn_iff (l : List PkP) (m : Int) : (jnOut l m).2 = ((msOut l m).2 && decide ((msOut l m).1.length = 0)) := by
  by_cases c : (pkfOut l m).2 = true
  · rw [ms_yes c]
    by_cases d : (missOf (pkfOut l m).1).length ≤ 0
    · rw [jn_yes c d]; simp; exact List.eq_nil_of_length_eq_zero (Nat.le_zero.1 d)
    · rw [jn_no fun q => d q.2]; simp; intro e; rw [e] at d; simp at d
  · rw [ms_no c, jn_no fun q => c q.1]; rfl
theorem sm_yes {m : Int} {sig : List Int} {sz : Int} (h : (smOut m sig sz).2 = true) : smOk m sig sz := Classical.byContradiction fun c => by rw [sm_no c] at h; cases h
theorem turned_all {m : Int} {sig : List Int} {sz : Int} {t : List PkP} (h : (smOut m sig sz).2 = true) (hl : t.length ≤ 40) (h1 : ∀ p ∈ t, p ∈ (smOut m sig sz).1) (h2 : ∀ p ∈ (smOut m sig sz).1, p ∈ t) : jnOut t m = (sig, true) ∧ msOut t m = ([], true) := by
  have hs := sm_yes h
  have e : jnOut t m = (sig, true) := by
    rw [← jn_split hs]
    exact (jn_set ⟨Nat.le_trans sm_nine (by decide), sm_good hs⟩ ⟨hl, fun p hp => sm_good hs p (h1 p hp)⟩ (fun p => ⟨h2 p, h1 p⟩) m).symm
  exact ⟨e, ms_of_jn (by rw [e])⟩
end Go.Proofs.YtbikhpphdhffaaaGreatDoor
