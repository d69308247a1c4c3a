/- Pk16, Pk17. Condition: none. -/
import Derived.Test.YtjmcijcdncgaiaaMgF
import Derived.Test.YtjmcijcdncgaiaaMgG
import Derived.Test.YtjmcijcdncgaiaaMgD
/- Lists of packets: plain facts. Condition: none. -/
namespace Go.Proofs.Ytjmcijcdncgaiaa
open Go.Vc
set_option linter.all false
theorem clash_sym {a b : PkP} (h : clash a b) : clash b a := ⟨h.1.symm, h.2.imp Ne.symm fun q => ⟨q.1.symm, Ne.symm q.2⟩⟩
theorem clash_irr (a : PkP) : ¬ clash a a := fun h => h.2.elim (fun q => q rfl) fun q => q.2 rfl
abbrev NC (l : List PkP) : Prop := ∀ p ∈ l, ∀ q ∈ l, ¬ clash p q
abbrev msgF (m : Int) (l : List PkP) : List PkP := l.filter fun p => decide (p.message = m)
theorem of_nc {m : Int} : ∀ (l out : List PkP), NC (out ++ msgF m l) → l.foldl (ofStep m) (some out) = some (out ++ msgF m l)
  | [], out, _ => by simp
  | p :: l, out, h => by
    rw [List.foldl_cons]
    by_cases c : p.message = m
    · have e : msgF m (p :: l) = p :: msgF m l := by simp [c]
      rw [e] at h ⊢
      have hn : ¬ out.any (fun q => decide (clash p q)) = true := by
        intro hc
        obtain ⟨q, hq, hq2⟩ := List.any_eq_true.1 hc
        exact h p (by simp) q (by simp [hq]) (of_decide_eq_true hq2)
      have e2 : ofStep m (some out) p = some (out ++ [p]) := by
        unfold ofStep
        rw [Option.bind_some, if_pos c, if_neg hn]
      rw [e2, of_nc l (out ++ [p]) (by rw [List.append_assoc]; exact h), List.append_assoc]; rfl
    · have e : msgF m (p :: l) = msgF m l := by simp [c]
      have e2 : ofStep m (some out) p = some out := by
        unfold ofStep
        rw [Option.bind_some, if_neg c]
      rw [e] at h ⊢
      rw [e2]; exact of_nc l out h
theorem of_some {m : Int} : ∀ (l out own : List PkP), l.foldl (ofStep m) (some out) = some own → NC out → own = out ++ msgF m l ∧ NC own
  | [], out, own, h, hn => by
    obtain rfl := Option.some.inj h
    exact ⟨by simp, hn⟩
  | p :: l, out, own, h, hn => by
    rw [List.foldl_cons] at h
    by_cases c : p.message = m
    · have e : msgF m (p :: l) = p :: msgF m l := by simp [c]
      by_cases hc : out.any (fun q => decide (clash p q)) = true
      · have e2 : ofStep m (some out) p = none := by
          unfold ofStep
          rw [Option.bind_some, if_pos c, if_pos hc]
        rw [e2, of_none] at h; cases h
      · have e2 : ofStep m (some out) p = some (out ++ [p]) := by
          unfold ofStep
          rw [Option.bind_some, if_pos c, if_neg hc]
        rw [e2] at h
        have hn2 : NC (out ++ [p]) := by
          have hq : ∀ q ∈ out, ¬ clash p q := fun q hq hcl => hc (List.any_eq_true.2 ⟨q, hq, decide_eq_true hcl⟩)
          intro a ha b hb
          rcases List.mem_append.1 ha with ha | ha
          · rcases List.mem_append.1 hb with hb | hb
            · exact hn a ha b hb
            · rw [List.mem_singleton.1 hb]
              exact fun hcl => hq a ha (clash_sym hcl)
          · rw [List.mem_singleton.1 ha]
            rcases List.mem_append.1 hb with hb | hb
            · exact hq b hb
            · rw [List.mem_singleton.1 hb]
              exact clash_irr _
        obtain ⟨h1, h2⟩ := of_some l (out ++ [p]) own h hn2
        exact ⟨by rw [h1, e, List.append_assoc]; rfl, h2⟩
    · have e : msgF m (p :: l) = msgF m l := by simp [c]
      have e2 : ofStep m (some out) p = some out := by
        unfold ofStep
        rw [Option.bind_some, if_neg c]
      rw [e2] at h
      rw [e]; exact of_some l out own h hn
theorem of_iff (l : List PkP) (m : Int) : (NC (msgF m l) → ofL l m = some (msgF m l)) ∧ (¬ NC (msgF m l) → ofL l m = none) := by
  refine ⟨fun h => by have := of_nc l [] (m := m) (by simpa using h); simpa [ofL] using this, fun h => ?_⟩
  cases ho : ofL l m with
  | none => rfl
  | some own =>
    have := of_some l [] own ho (fun p hp => by simp at hp)
    rw [List.nil_append] at this
    rw [this.1] at this
    exact absurd this.2 h
theorem any_mem {a b : List PkP} (h : ∀ p, p ∈ a ↔ p ∈ b) (f : PkP → Bool) : a.any f = b.any f := by
 rw [Bool.eq_iff_iff, List.any_eq_true, List.any_eq_true]
 exact ⟨fun ⟨x, h1, h2⟩ => ⟨x, (h x).1 h1, h2⟩, fun ⟨x, h1, h2⟩ => ⟨x, (h x).2 h1, h2⟩⟩
theorem msg_all {m : Int} {l : List PkP} : ∀ p ∈ msgF m l, p.message = m := fun p hp => of_decide_eq_true (List.mem_filter.1 hp).2
theorem nc_parts {a b : PkP} {m : Int} (h : ¬ clash a b) (ha : a.message = m) (hb : b.message = m) : a.parts = b.parts ∧ (a.part = b.part → a.signals = b.signals) := by
 have e : a.message = b.message := ha.trans hb.symm
 refine ⟨Classical.byContradiction fun hc => h ⟨e, .inl hc⟩, fun hp => Classical.byContradiction fun hc => h ⟨e, .inr ⟨hp, hc⟩⟩⟩
theorem jn_set {l l' : List PkP} (h : PksOk l) (h' : PksOk l') (hm : ∀ p, p ∈ l ↔ p ∈ l') (m : Int) : jnOut l m = jnOut l' m := by
  have hf : ∀ p, p ∈ msgF m l ↔ p ∈ msgF m l' := fun p => by
    rw [List.mem_filter, List.mem_filter, hm p]
  have hnc : NC (msgF m l) ↔ NC (msgF m l') := ⟨fun k p hp q hq => k p ((hf p).2 hp) q ((hf q).2 hq), fun k p hp q hq => k p ((hf p).1 hp) q ((hf q).1 hq)⟩
  by_cases hmm : 1 ≤ m ∧ m ≤ 999
  · by_cases c : NC (msgF m l)
    · have e1 := pkf_yes h hmm ((of_iff l m).1 c)
      have e2 := pkf_yes h' hmm ((of_iff l' m).1 (hnc.1 c))
      have epart : partsOf0 (msgF m l) = partsOf0 (msgF m l') := by
        cases ha : msgF m l with
        | nil =>
          cases hb : msgF m l' with
          | nil => rfl
          | cons q r => exact absurd ((hf q).2 (by rw [hb]; simp)) (by rw [ha]; simp)
        | cons p r =>
          cases hb : msgF m l' with
          | nil => exact absurd ((hf p).1 (by rw [ha]; simp)) (by rw [hb]; simp)
          | cons q s =>
            have hp : p ∈ msgF m l := by rw [ha]; simp
            have hq : q ∈ msgF m l := (hf q).2 (by rw [hb]; simp)
            exact (nc_parts (c p hp q hq) (msg_all p hp) (msg_all q hq)).1
      have emiss : missOf (msgF m l) = missOf (msgF m l') := by
        unfold missOf missTo
        rw [epart]
        congr 1
        refine List.filter_congr fun k _ => ?_
        rw [any_mem hf]
      have ejoin : joinTo (msgF m l) (partsOf0 (msgF m l)).toNat = joinTo (msgF m l') (partsOf0 (msgF m l')).toNat := by
        rw [epart]
        unfold joinTo
        congr 1
        funext k
        cases ha : (msgF m l).find? (fun p : PkP => decide (p.part = (k : Int))) with
        | none =>
          cases hb : (msgF m l').find? (fun p : PkP => decide (p.part = (k : Int))) with
          | none => rfl
          | some q =>
            have hq := List.mem_of_find?_eq_some hb
            have := List.find?_eq_none.1 ha q ((hf q).2 hq)
            exact absurd (List.find?_some hb) this
        | some p =>
          cases hb : (msgF m l').find? (fun p : PkP => decide (p.part = (k : Int))) with
          | none =>
            have hp := List.mem_of_find?_eq_some ha
            have := List.find?_eq_none.1 hb p ((hf p).1 hp)
            exact absurd (List.find?_some ha) this
          | some q =>
            have hp := List.mem_of_find?_eq_some ha
            have hq := (hf q).2 (List.mem_of_find?_eq_some hb)
            have p1 : p.part = (k : Int) := by have := List.find?_some ha; simpa using this
            have p2 : q.part = (k : Int) := by have := List.find?_some hb; simpa using this
            exact (nc_parts (c p hp q hq) (msg_all p hp) (msg_all q hq)).2 (p1.trans p2.symm)
      have epos : (0 < (msgF m l).length) ↔ (0 < (msgF m l').length) := by
        rw [List.length_pos_iff_exists_mem, List.length_pos_iff_exists_mem]
        exact ⟨fun ⟨x, hx⟩ => ⟨x, (hf x).1 hx⟩, fun ⟨x, hx⟩ => ⟨x, (hf x).2 hx⟩⟩
      unfold jnOut
      rw [e1, e2]
      simp only [decide_eq_true_eq]
      rw [emiss, ejoin]
      by_cases cp : 0 < (msgF m l).length ∧ (missOf (msgF m l')).length ≤ 0
      · rw [if_pos cp, if_pos ⟨epos.1 cp.1, cp.2⟩]
      · rw [if_neg cp, if_neg fun hc => cp ⟨epos.2 hc.1, hc.2⟩]
    · rw [jn_no (by rw [pkf_bad ((of_iff l m).2 c)]; simp), jn_no (by rw [pkf_bad ((of_iff l' m).2 fun k => c (hnc.2 k))]; simp)]
  · rw [jn_no (by rw [pkf_no fun hc => hmm hc.2]; simp), jn_no (by rw [pkf_no fun hc => hmm hc.2]; simp)]
theorem jn_clash {l : List PkP} {p q : PkP} (hp : p ∈ l) (hq : q ∈ l) (h : clash p q) : (jnOut l p.message).2 = false := by
 have hn : ¬ NC (msgF p.message l) := fun k => k p (List.mem_filter.2 ⟨hp, by simp⟩) q (List.mem_filter.2 ⟨hq, by simp [h.1]⟩) h
 rw [jn_no (by rw [pkf_bad ((of_iff l p.message).2 hn)]; simp)]

/-- without doubles -/
theorem wd_fold : ∀ (l out : List PkP), out.Nodup → (l.foldl wdStep out).Nodup ∧ (∀ p, p ∈ l.foldl wdStep out ↔ p ∈ out ∨ p ∈ l)
  | [], out, h => ⟨h, fun p => by simp⟩
  | x :: l, out, h => by
    rw [List.foldl_cons]
    by_cases c : out.any (fun q => decide (x = q)) = true
    · have e : wdStep out x = out := by rw [wdStep, if_pos c]
      obtain ⟨q, hq, hx⟩ := List.any_eq_true.1 c
      have hx := of_decide_eq_true hx
      subst hx
      rw [e]
      obtain ⟨h1, h2⟩ := wd_fold l out h
      refine ⟨h1, fun p => ?_⟩
      rw [h2 p, List.mem_cons]
      constructor
      · rintro (h3 | h3)
        · exact .inl h3
        · exact .inr (.inr h3)
      · rintro (h3 | rfl | h3)
        · exact .inl h3
        · exact .inl hq
        · exact .inr h3
    · have e : wdStep out x = out ++ [x] := by rw [wdStep, if_neg c]
      rw [e]
      have hx : x ∉ out := fun hx => c (List.any_eq_true.2 ⟨x, hx, by simp⟩)
      obtain ⟨h1, h2⟩ := wd_fold l (out ++ [x]) (List.nodup_append.2 ⟨h, by simp, fun a ha b hb => by
        obtain rfl := List.mem_singleton.1 hb
        exact fun e => hx (e ▸ ha)⟩)
      refine ⟨h1, fun p => ?_⟩
      rw [h2 p, List.mem_append, List.mem_singleton, List.mem_cons, or_assoc]
theorem wd_same : ∀ (l out : List PkP), (out ++ l).Nodup → l.foldl wdStep out = out ++ l
  | [], out, _ => by simp
  | x :: l, out, h => by
    have hx : x ∉ out := fun hx => by
      have := (List.nodup_append.1 h).2.2 x hx x (by simp)
      exact this rfl
    have c : ¬ out.any (fun q => decide (x = q)) = true := fun c => by
      obtain ⟨q, hq, he⟩ := List.any_eq_true.1 c
      have := of_decide_eq_true he
      subst this; exact hx hq
    rw [List.foldl_cons, wdStep, if_neg c, wd_same l (out ++ [x]) (by rw [List.append_assoc]; exact h), List.append_assoc]; rfl
theorem wd_facts {l : List PkP} (h : (wdOut l).2 = true) : PksOk l ∧ (wdOut l).1 = wd l ∧ (wdOut l).1.Nodup ∧ wdOut (wdOut l).1 = ((wdOut l).1, true) ∧ (srtOut l).1.length = l.length ∧ ordP (srtOut l).1 ∧ (∀ m, jnOut (wdOut l).1 m = jnOut l m) ∧ ∀ m, jnOut (srtOut l).1 m = jnOut l m := by
  unfold wdOut at h
  split at h
  · rename_i c
    have e1 : wdOut l = (wd l, true) := by rw [wdOut, if_pos c]
    have e2 : srtOut l = (srtL l, true) := so_yes c
    obtain ⟨h1, h2⟩ := wd_fold l [] List.nodup_nil
    have hok : PksOk (wd l) := ⟨Nat.le_trans (wd_len l) c.1, fun p hp => c.2 p (wd_sub l p hp)⟩
    have hso : PksOk (srtL l) := ⟨by rw [srt_len]; exact c.1, fun p hp => c.2 p (srt_mem p hp)⟩
    have e3 : wd (wd l) = wd l := by
      have := wd_same (wd l) [] (by simpa [wd] using h1)
      simpa [wd] using this
    rw [e1, e2]
    refine ⟨c, rfl, h1, by rw [wdOut, if_pos hok, e3], srt_len l, (srt_props l).1, fun m => jn_set hok c (fun p => ?_) m, fun m => jn_set hso c (fun p => ?_) m⟩
    · have := h2 p; simpa [wd] using this
    · refine ⟨srt_mem p, fun hp => ?_⟩
      have : p ∈ clsP (ppKey p) l := List.mem_filter.2 ⟨hp, by simp⟩
      rw [← (srt_props l).2] at this
      exact (List.mem_filter.1 this).1
  · cases h
theorem pk_oks (l : List PkP) : decide (PksOk l) = (wdOut l).2 ∧ (srtOut l).2 = (wdOut l).2 ∧ (msgOut l).2 = (wdOut l).2 ∧ (cfOut l).2 = (wdOut l).2 := by
  by_cases c : PksOk l
  · rw [wdOut, srtOut, msgOut, cfOut, if_pos c, if_pos c, if_pos c, if_pos c]; exact ⟨decide_eq_true c, rfl, rfl, rfl⟩
  · rw [wdOut, srtOut, msgOut, cfOut, if_neg c, if_neg c, if_neg c, if_neg c]; exact ⟨decide_eq_false c, rfl, rfl, rfl⟩
theorem nodup_ne {q : List Pk} {l : List PkP} (hq : q.map Pk.p = l) (h : l.Nodup) {k j : Nat} {x y : Pk} (hx : q[k]? = some x) (hy : (q.take k)[j]? = some y) : ¬ x.p = y.p := by
 intro e
 have hj : j < k := by
  have := (List.getElem?_eq_some_iff.1 hy).1
  rw [List.length_take] at this; omega
 rw [List.getElem?_take_of_lt hj] at hy
 have h1 : l[k]? = some x.p := by rw [← hq]; exact map_get hx
 have h2 : l[j]? = some y.p := by rw [← hq]; exact map_get hy
 obtain ⟨l1, e1⟩ := List.getElem?_eq_some_iff.1 h1
 obtain ⟨l2, e2⟩ := List.getElem?_eq_some_iff.1 h2
 have := (List.pairwise_iff_getElem.1 h) j k l2 l1 hj
 rw [e1, e2] at this
 exact this e.symm
theorem ord_at {q : List Pk} {l : List PkP} (hq : q.map Pk.p = l) (h : ordP l) {i : Int} {x y : Pk} (h1 : 1 ≤ i) (hx : q[(i - 1).toNat]? = some x) (hy : q[i.toNat]? = some y) : ¬ (y.message < x.message ∨ (y.message = x.message ∧ y.part < x.part)) := by
 have h1' : l[(i - 1).toNat]? = some x.p := by rw [← hq]; exact map_get hx
 have h2' : l[i.toNat]? = some y.p := by rw [← hq]; exact map_get hy
 obtain ⟨l1, e1⟩ := List.getElem?_eq_some_iff.1 h1'
 obtain ⟨l2, e2⟩ := List.getElem?_eq_some_iff.1 h2'
 have := (List.pairwise_iff_getElem.1 h) _ _ l1 l2 (by omega)
 rw [e1, e2] at this
 exact this
/-- conflicts -/
theorem cf_row {l : List PkP} {n : Nat} : ∀ r ∈ cf l n, ∃ (i k : Nat) (p q : PkP), r = [(i : Int), (k : Int)] ∧ l[i]? = some p ∧ l[k]? = some q ∧ clash p q := by
  intro r hr
  unfold cf at hr
  obtain ⟨i, _, hi⟩ := List.mem_flatMap.1 hr
  unfold cfRow at hi
  split at hi
  · rename_i p hp
    unfold cfPart at hi
    obtain ⟨k, hk, rfl⟩ := List.mem_map.1 hi
    have h2 := (List.mem_filter.1 hk).2
    simp only [Bool.and_eq_true] at h2
    have h3 := h2.2
    split at h3
    · rename_i q hq
      exact ⟨i, k, p, q, rfl, hp, hq, of_decide_eq_true h3⟩
    · cases h3
  · simp at hi
theorem cf_at {g : List Pk} {q : List RowI} {k : Nat} {x : RowI} (hq : q.map RowI.sig = (cfOut (g.map Pk.p)).1) (hx : q[k]? = some x) : ∃ (i j : Nat) (a b : Pk), x.sig = [(i : Int), (j : Int)] ∧ g[i]? = some a ∧ g[j]? = some b ∧ clash a.p b.p := by
  have hm : x.sig ∈ (cfOut (g.map Pk.p)).1 := by rw [← hq]; exact List.mem_map_of_mem (List.mem_of_getElem? hx)
  unfold cfOut at hm
  split at hm
  · obtain ⟨i, j, p, r, e, h1, h2, h3⟩ := cf_row _ hm
    rw [List.getElem?_map] at h1 h2
    obtain ⟨a, ha, rfl⟩ := Option.map_eq_some_iff.1 h1
    obtain ⟨b, hb, rfl⟩ := Option.map_eq_some_iff.1 h2
    exact ⟨i, j, a, b, e, ha, hb, h3⟩
  · simp at hm
theorem cf_two' {g : List Pk} {q : List RowI} {k : Nat} {x : RowI} (hq : q.map RowI.sig = (cfOut (g.map Pk.p)).1) (hx : q[k]? = some x) : x.sig.length = 2 := by
 obtain ⟨i, j, a, b, e, _⟩ := cf_at hq hx
 rw [e]; rfl
theorem cf_in {g : List Pk} {q : List RowI} {k : Nat} {x : RowI} {y : Int} (hq : q.map RowI.sig = (cfOut (g.map Pk.p)).1) (hx : q[k]? = some x) {t : Nat} (hy : x.sig[t]? = some y) : 0 ≤ y ∧ y.toNat < g.length := by
  obtain ⟨i, j, a, b, e, h1, h2, _⟩ := cf_at hq hx
  rw [e] at hy
  have l1 := (List.getElem?_eq_some_iff.1 h1).1
  have l2 := (List.getElem?_eq_some_iff.1 h2).1
  match t, hy with
  | 0, hy => simp at hy; subst hy; omega
  | 1, hy => simp at hy; subst hy; omega
theorem cf_is {g : List Pk} {q : List RowI} {k : Nat} {x : RowI} {y0 y1 : Int} {a b : Pk} (hq : q.map RowI.sig = (cfOut (g.map Pk.p)).1) (hx : q[k]? = some x) (h0 : x.sig[0]? = some y0) (h1 : x.sig[1]? = some y1) (ha : g[y0.toNat]? = some a) (hb : g[y1.toNat]? = some b) :
    a.message = b.message ∧ ¬ a.p = b.p ∧ (jnOut (g.map Pk.p) a.message).2 = false := by
  obtain ⟨i, j, a', b', e, h2, h3, hc⟩ := cf_at hq hx
  rw [e] at h0 h1
  simp at h0 h1
  subst h0; subst h1
  rw [Int.toNat_natCast] at ha hb
  rw [ha] at h2; rw [hb] at h3
  obtain rfl := Option.some.inj h2
  obtain rfl := Option.some.inj h3
  refine ⟨hc.1, fun e2 => ?_, ?_⟩
  · rw [e2] at hc; exact clash_irr _ hc
  · exact jn_clash (p := a.p) (List.mem_map_of_mem (List.mem_of_getElem? ha)) (List.mem_map_of_mem (List.mem_of_getElem? hb)) hc
end Go.Proofs.Ytjmcijcdncgaiaa


/- Lists of packets: contracts wanted by the law of draws. Condition: none. Printed in part by a program. -/
namespace Go.Proofs.Ytjmcijcdncgaiaa
open Go.Vc
set_option linter.all false

theorem mq_step {α β : Type} {f : α → β} {a b : List α} {k : Nat} {x y : α} (h : (a.map f).take k = (b.map f).take k) (hx : a[k]? = some x) (hy : b[k]? = some y) (e : f x = f y) : (a.map f).take (k + 1) = (b.map f).take (k + 1) := by
 rw [List.take_add_one, List.take_add_one, h, List.getElem?_map, List.getElem?_map, hx, hy]; simp [e]
theorem mq_done {α β : Type} {f : α → β} {a b : List α} {k : Nat} (h : (a.map f).take k = (b.map f).take k) (hk : ¬ (k : Int) < (a.length : Int)) (hl : (a.length : Int) = (b.length : Int)) : a.map f = b.map f := by
 rw [List.take_of_length_le (by rw [List.length_map]; omega), List.take_of_length_le (by rw [List.length_map]; omega)] at h; exact h
theorem mq_ne {α β : Type} {f : α → β} {a b : List α} {k : Nat} {x y : α} (hx : a[k]? = some x) (hy : b[k]? = some y) (h : ¬ f x = f y) : a.map f ≠ b.map f := fun e => by
 have e2 := congrArg (fun l => l[k]?) e
 simp only [List.getElem?_map, hx, hy, Option.map_some, Option.some.injEq] at e2
 exact h e2
theorem mq_len {α β : Type} {f : α → β} {a b : List α} (e : a.map f = b.map f) : (a.length : Int) = (b.length : Int) := by
 have := congrArg List.length e
 rw [List.length_map, List.length_map] at this; omega

theorem laws_big_ok (v_code : Value) (code : List By) (v_more : Value) (more : List By) (h : Heap) (s_code : Sl h v_code code) (s_more : Sl h v_more more) : Cn f_laws_big [v_code, v_more] h fun v h' => v = .bool (decide (1048576 < code.length + more.length)) ∧ Ext h h' := by
 have lt_code := s_code.lt
 have l63_code := s_code.len63
 have lt_more := s_more.lt
 have l63_more := s_more.len63
 refine calls_of r_laws_big ?_
 refine v_seq ?_
 refine v_ops ?_
 refine s_pure (.bool false) (fun _ q => q) ?_
 refine s_nil ?_
 refine p_seqN ?_
 refine v_seq ?_
 refine v_ops ?_
 refine s_pure v_code (fun _ q => q) ?_
 refine s_pure (.int .i64 (code.length : Int)) (fun _ q => s_code.lenVC q) ?_
 refine s_pure (.bool (decide ((code.length : Int) > 1048576))) (fun _ q => q) ?_
 refine s_pure (.bool (decide ((code.length : Int) > 1048576))) (fun _ q => q) ?_
 refine s_splitT rfl (fun c1 => ?_) (fun c1 => ?_)
 ·
  refine s_pass rfl ?_
  refine s_pass rfl ?_
  refine s_pass rfl ?_
  refine s_pass rfl ?_
  refine s_pass rfl ?_
  refine s_pass rfl ?_
  refine s_pure (.bool true) (fun _ q => q) ?_
  refine s_pure (.bool true) (fun _ q => q) ?_
  refine s_nil ?_
  refine p_seqN ?_
  refine v_ret ?_
  refine p_ret [.bool true] (.bool true) (fun _ q => q) rfl ?_
  have ho : (decide (1048576 < code.length + more.length)) = true := by first | exact decide_eq_true (by omega) | exact decide_eq_decide.2 (by omega)
  exact ⟨by first | (rw [ho]; done) | rfl, (Ext.refl h)⟩
 ·
  refine s_run rfl ?_
  refine s_pure v_more (fun _ q => q) ?_
  refine s_run rfl ?_
  refine s_pure (.int .i64 (more.length : Int)) (fun _ q => s_more.lenVC q) ?_
  refine s_run rfl ?_
  refine s_pure v_code (fun _ q => q) ?_
  refine s_run rfl ?_
  refine s_pure (.int .i64 (code.length : Int)) (fun _ q => s_code.lenVC q) ?_
  refine s_run rfl ?_
  refine s_pure (.int .i64 (1048576 - (code.length : Int))) (fun _ q => ArithVC.mk (by omega) q) ?_
  refine s_run rfl ?_
  refine s_pure (.bool (decide ((more.length : Int) > (1048576 - (code.length : Int))))) (fun _ q => q) ?_
  refine s_pure (.bool (decide ((more.length : Int) > (1048576 - (code.length : Int))))) (fun _ q => q) ?_
  refine s_pure (.bool (decide ((more.length : Int) > (1048576 - (code.length : Int))))) (fun _ q => q) ?_
  refine s_nil ?_
  refine p_seqN ?_
  refine v_ret ?_
  refine p_ret [.bool (decide ((more.length : Int) > (1048576 - (code.length : Int))))] (.bool (decide ((more.length : Int) > (1048576 - (code.length : Int))))) (fun _ q => q) rfl ?_
  have ho : (decide (1048576 < code.length + more.length)) = (decide ((more.length : Int) > (1048576 - (code.length : Int)))) := by first | exact decide_eq_true (by omega) | exact decide_eq_decide.2 (by omega)
  exact ⟨by first | (rw [ho]; done) | rfl, (Ext.refl h)⟩

theorem laws_sameInts_ok (v_a : Value) (a : List Int) (v_b : Value) (b : List Int) (h : Heap) (s_a : Sl h v_a a) (s_b : Sl h v_b b) : Cn f_laws_sameInts [v_a, v_b] h fun v h' => v = .bool (decide (a = b)) ∧ Ext h h' := by
 have lt_a := s_a.lt
 have l63_a := s_a.len63
 have lt_b := s_b.lt
 have l63_b := s_b.len63
 refine calls_of r_laws_sameInts ?_
 refine v_seq ?_
 refine v_ops ?_
 refine s_pure (.bool false) (fun _ q => q) ?_
 refine s_nil ?_
 refine p_seqN ?_
 refine v_seq ?_
 refine v_seq ?_
 refine v_ops ?_
 refine s_pure v_a (fun _ q => q) ?_
 refine s_pure (.int .i64 (a.length : Int)) (fun _ q => s_a.lenVC q) ?_
 refine s_pure v_b (fun _ q => q) ?_
 refine s_pure (.int .i64 (b.length : Int)) (fun _ q => s_b.lenVC q) ?_
 refine s_pure (.bool ((a.length : Int) != (b.length : Int))) (fun _ q => q) ?_
 refine s_nil ?_
 refine p_seqN ?_
 refine v_cond rfl (fun c1 => ?_) (fun c1 => ?_)
 ·
  refine v_seq ?_
  refine v_ops ?_
  refine s_pure (.bool false) (fun _ q => q) ?_
  refine s_nil ?_
  refine p_seqN ?_
  refine v_ret ?_
  refine p_seqR ?_
  refine p_ret [.bool false] (.bool false) (fun _ q => q) rfl ?_
  have ho : (decide (a = b)) = false := by simp only [decide_eq_true_eq, decide_eq_false_iff_not]; first | (intro hab; subst hab; omega) | exact get_ne (by assumption) (by assumption) (by assumption) | exact take_done hab (by assumption) (by omega)
  exact ⟨by first | (rw [ho]; done) | rfl, (Ext.refl h)⟩
 ·
  have c1 := Classical.not_not.1 c1
  refine v_skip ?_
  refine p_seqN ?_
  refine v_seq ?_
  refine v_seq ?_
  refine v_ops ?_
  refine s_pure v_a (fun _ q => q) ?_
  refine s_pure (.int .i64 (a.length : Int)) (fun _ q => s_a.lenVC q) ?_
  refine s_pure (.int .i64 0) (fun _ q => q) ?_
  refine s_nil ?_
  refine p_seqN ?_
  refine v_block ?_
  refine v_loop1 (α := Nat) (fun k => [(0, v_a), (1, v_b), (12, .int .i64 (a.length : Int)), (13, .int .i64 (k : Int))]) (fun k hh => Ext h hh ∧ k ≤ a.length ∧ a.take k = b.take k) (fun k => a.length - k) 0 ⟨rfl, rfl, rfl, rfl⟩ ⟨(Ext.refl h), (by simp)⟩ ?_
  rintro k R3 h2 ⟨Eh, ⟨hk, hab⟩⟩
  have zEh := Eh.size
  have f5 := s_a.ext Eh
  have f6 := s_b.ext Eh
  refine v_seq ?_
  refine v_ops ?_
  refine s_pure (.bool (decide ((k : Int) < (a.length : Int)))) (fun _ q => q) ?_
  refine s_nil ?_
  refine p_seqN ?_
  refine v_seq ?_
  refine v_cond rfl (fun c7 => ?_) (fun c7 => ?_)
  ·
   refine v_skip ?_
   refine p_seqN ?_
   refine v_seq ?_
   refine v_block ?_
   refine v_seq ?_
   refine v_ops ?_
   refine s_pure (.int .i64 (k : Int)) (fun _ q => q) ?_
   refine s_pure (.int .i64 (k : Int)) (fun _ q => q) ?_
   refine s_nil ?_
   refine p_seqN ?_
   refine v_seq ?_
   refine v_ops ?_
   refine s_pure v_a (fun _ q => q) ?_
   refine s_pure (.int .i64 (k : Int)) (fun _ q => q) ?_
   have hk8 : k < a.length := (by first | omega | (simp; omega))
   obtain ⟨x9, hx9⟩ : ∃ x, a[k]? = some x := ⟨_, List.getElem?_eq_getElem hk8⟩
   refine s_pure (.pointer (some ⟨sblk v_a, soff v_a + k * 1, none⟩)) (fun _ q => f5.idx (k := k) rfl hk8 q) ?_
   refine s_pure v_b (fun _ q => q) ?_
   refine s_pure (.int .i64 (k : Int)) (fun _ q => q) ?_
   have hk10 : k < b.length := (by first | omega | (simp; omega))
   obtain ⟨x11, hx11⟩ : ∃ x, b[k]? = some x := ⟨_, List.getElem?_eq_getElem hk10⟩
   refine s_pure (.pointer (some ⟨sblk v_b, soff v_b + k * 1, none⟩)) (fun _ q => f6.idx (k := k) rfl hk10 q) ?_
   refine s_load (.int .i64 x9) (fun _ q => f5.load1 hx9 rfl q) ?_
   refine s_load (.int .i64 x11) (fun _ q => f6.load1 hx11 rfl q) ?_
   refine s_pure (.bool (x9 != x11)) (fun _ q => q) ?_
   refine s_nil ?_
   refine p_seqN ?_
   refine v_cond rfl (fun c12 => ?_) (fun c12 => ?_)
   ·
    refine v_seq ?_
    refine v_ops ?_
    refine s_pure (.bool false) (fun _ q => q) ?_
    refine s_nil ?_
    refine p_seqN ?_
    refine v_ret ?_
    refine p_blkR ?_
    refine p_seqR ?_
    refine p_lpR ?_
    refine p_blkR ?_
    refine p_seqR ?_
    refine p_ret [.bool false] (.bool false) (fun _ q => q) rfl ?_
    have ho : (decide (a = b)) = false := by simp only [decide_eq_true_eq, decide_eq_false_iff_not]; first | (intro hab; subst hab; omega) | exact get_ne (by assumption) (by assumption) (by assumption) | exact take_done hab (by assumption) (by omega)
    exact ⟨by first | (rw [ho]; done) | rfl, Eh⟩
   ·
    have c12 := Classical.not_not.1 c12
    refine v_skip ?_
    refine p_blkN ?_
    refine p_seqN ?_
    refine v_ops ?_
    refine s_pure (.int .i64 ((k : Int) + 1)) (fun _ q => ArithVC.mk (by omega) q) ?_
    refine s_pure (.int .i64 ((k : Int) + 1)) (fun _ q => q) ?_
    refine s_nil ?_
    exact p_lpN ⟨k + 1, ⟨rfl, rfl, rfl, rfl⟩, ⟨Eh, (by exact ⟨by omega, take_ext hab (by assumption) (by assumption) (by assumption)⟩)⟩, by omega⟩
  ·
   refine v_exit ?_
   refine p_seqX ?_
   refine p_lpX ?_
   refine p_blkX ?_
   refine p_seqN ?_
   refine v_seq ?_
   refine v_ops ?_
   refine s_pure (.bool true) (fun _ q => q) ?_
   refine s_nil ?_
   refine p_seqN ?_
   refine v_ret ?_
   refine p_ret [.bool true] (.bool true) (fun _ q => q) rfl ?_
   have ho : (decide (a = b)) = true := by simp only [decide_eq_true_eq, decide_eq_false_iff_not]; first | (intro hab; subst hab; omega) | exact get_ne (by assumption) (by assumption) (by assumption) | exact take_done hab (by assumption) (by omega)
   exact ⟨by first | (rw [ho]; done) | rfl, Eh⟩

theorem laws_pSamePacket_ok (a : PkP) (v_a_signals : Value) (b : PkP) (v_b_signals : Value) (h : Heap) (s_a_signals : Sl h v_a_signals a.signals) (s_b_signals : Sl h v_b_signals b.signals) : Cn f_laws_pSamePacket [.agg #[.int .i64 a.message, .int .i64 a.part, .int .i64 a.parts, v_a_signals], .agg #[.int .i64 b.message, .int .i64 b.part, .int .i64 b.parts, v_b_signals]] h fun v h' => v = .bool (decide (a = b)) ∧ Ext h h' := by
 have lt_a_signals := s_a_signals.lt
 have l63_a_signals := s_a_signals.len63
 have lt_b_signals := s_b_signals.lt
 have l63_b_signals := s_b_signals.len63
 refine calls_of r_laws_pSamePacket ?_
 refine v_seq ?_
 refine v_ops ?_
 refine s_box [.int .i64 a.message, .int .i64 a.part, .int .i64 a.parts, v_a_signals] rfl (fun h2 b1 hbb1 hzb1 eh2 bxb1 => ?_)
 have E3 := (Ext.refl h).trans eh2
 have z4 := eh2.size
 have lbb1 := bxb1.lt
 refine s_box [.int .i64 b.message, .int .i64 b.part, .int .i64 b.parts, v_b_signals] rfl (fun h6 b5 hbb5 hzb5 eh6 bxb5 => ?_)
 have E7 := E3.trans eh6
 have z8 := eh6.size
 have lbb5 := bxb5.lt
 refine s_pure (.bool false) (fun _ q => q) ?_
 refine s_nil ?_
 refine p_seqN ?_
 refine v_seq ?_
 refine v_ops ?_
 refine s_pure (.pointer (some ⟨b1, 0, none⟩)) (fun _ q => q) ?_
 have f9 := (bxb1.ext eh6)
 refine s_load (.int .i64 a.message) (fun _ q => f9.load rfl q) ?_
 refine s_pure (.pointer (some ⟨b5, 0, none⟩)) (fun _ q => q) ?_
 refine s_load (.int .i64 b.message) (fun _ q => bxb5.load rfl q) ?_
 refine s_pure (.bool (a.message == b.message)) (fun _ q => q) ?_
 refine s_pure (.bool (a.message == b.message)) (fun _ q => q) ?_
 refine s_splitT rfl (fun c10 => ?_) (fun c10 => ?_)
 ·
  refine s_run rfl ?_
  refine s_pure (.pointer (some ⟨b1, 1, none⟩)) (fun _ q => q) ?_
  refine s_run rfl ?_
  refine s_load (.int .i64 a.part) (fun _ q => f9.load rfl q) ?_
  refine s_run rfl ?_
  refine s_pure (.pointer (some ⟨b5, 1, none⟩)) (fun _ q => q) ?_
  refine s_run rfl ?_
  refine s_load (.int .i64 b.part) (fun _ q => bxb5.load rfl q) ?_
  refine s_run rfl ?_
  refine s_pure (.bool (a.part == b.part)) (fun _ q => q) ?_
  refine s_pure (.bool (a.part == b.part)) (fun _ q => q) ?_
  refine s_pure (.bool (a.part == b.part)) (fun _ q => q) ?_
  refine s_splitT rfl (fun c11 => ?_) (fun c11 => ?_)
  ·
   refine s_run rfl ?_
   refine s_pure (.pointer (some ⟨b1, 2, none⟩)) (fun _ q => q) ?_
   refine s_run rfl ?_
   refine s_load (.int .i64 a.parts) (fun _ q => f9.load rfl q) ?_
   refine s_run rfl ?_
   refine s_pure (.pointer (some ⟨b5, 2, none⟩)) (fun _ q => q) ?_
   refine s_run rfl ?_
   refine s_load (.int .i64 b.parts) (fun _ q => bxb5.load rfl q) ?_
   refine s_run rfl ?_
   refine s_pure (.bool (a.parts == b.parts)) (fun _ q => q) ?_
   refine s_pure (.bool (a.parts == b.parts)) (fun _ q => q) ?_
   refine s_pure (.bool (a.parts == b.parts)) (fun _ q => q) ?_
   refine s_splitT rfl (fun c12 => ?_) (fun c12 => ?_)
   ·
    refine s_run rfl ?_
    refine s_pure (.pointer (some ⟨b1, 3, none⟩)) (fun _ q => q) ?_
    refine s_run rfl ?_
    refine s_load v_a_signals (fun _ q => f9.load rfl q) ?_
    refine s_run rfl ?_
    refine s_pure (.pointer (some ⟨b5, 3, none⟩)) (fun _ q => q) ?_
    refine s_run rfl ?_
    refine s_load v_b_signals (fun _ q => bxb5.load rfl q) ?_
    refine s_run rfl ?_
    have f14 := ((s_a_signals.ext eh2).ext eh6)
    have f15 := ((s_b_signals.ext eh2).ext eh6)
    refine s_call [v_a_signals, v_b_signals] rfl (laws_sameInts_ok v_a_signals a.signals v_b_signals b.signals _ f14 f15) ?_
    rintro _ h13 ⟨rfl, eh13⟩
    have E16 := E7.trans eh13
    have z17 := eh13.size
    refine s_pure (.bool (decide (a.signals = b.signals))) (fun _ q => q) ?_
    refine s_pure (.bool (decide (a.signals = b.signals))) (fun _ q => q) ?_
    refine s_nil ?_
    refine p_seqN ?_
    refine v_ret ?_
    refine p_ret [.bool (decide (a.signals = b.signals))] (.bool (decide (a.signals = b.signals))) (fun _ q => q) rfl ?_
    have ho : (decide (a = b)) = (decide (a.signals = b.signals)) := by simp only [pkp_ext]; simp [*]
    exact ⟨by first | (rw [ho]; done) | rfl, E16⟩
   ·
    refine s_pass rfl ?_
    refine s_pass rfl ?_
    refine s_pass rfl ?_
    refine s_pass rfl ?_
    refine s_pass rfl ?_
    refine s_pure (.bool false) (fun _ q => q) ?_
    refine s_pure (.bool false) (fun _ q => q) ?_
    refine s_nil ?_
    refine p_seqN ?_
    refine v_ret ?_
    refine p_ret [.bool false] (.bool false) (fun _ q => q) rfl ?_
    have ho : (decide (a = b)) = false := by simp only [pkp_ext]; simp [*]
    exact ⟨by first | (rw [ho]; done) | rfl, E7⟩
  ·
   refine s_pass rfl ?_
   refine s_pass rfl ?_
   refine s_pass rfl ?_
   refine s_pass rfl ?_
   refine s_pass rfl ?_
   refine s_pure (.bool false) (fun _ q => q) ?_
   refine s_pure (.bool false) (fun _ q => q) ?_
   refine s_splitN rfl (by simp) ?_
   refine s_pass rfl ?_
   refine s_pass rfl ?_
   refine s_pass rfl ?_
   refine s_pass rfl ?_
   refine s_pass rfl ?_
   refine s_pure (.bool false) (fun _ q => q) ?_
   refine s_pure (.bool false) (fun _ q => q) ?_
   refine s_nil ?_
   refine p_seqN ?_
   refine v_ret ?_
   refine p_ret [.bool false] (.bool false) (fun _ q => q) rfl ?_
   have ho : (decide (a = b)) = false := by simp only [pkp_ext]; simp [*]
   exact ⟨by first | (rw [ho]; done) | rfl, E7⟩
 ·
  refine s_pass rfl ?_
  refine s_pass rfl ?_
  refine s_pass rfl ?_
  refine s_pass rfl ?_
  refine s_pass rfl ?_
  refine s_pure (.bool false) (fun _ q => q) ?_
  refine s_pure (.bool false) (fun _ q => q) ?_
  refine s_splitN rfl (by simp) ?_
  refine s_pass rfl ?_
  refine s_pass rfl ?_
  refine s_pass rfl ?_
  refine s_pass rfl ?_
  refine s_pass rfl ?_
  refine s_pure (.bool false) (fun _ q => q) ?_
  refine s_pure (.bool false) (fun _ q => q) ?_
  refine s_splitN rfl (by simp) ?_
  refine s_pass rfl ?_
  refine s_pass rfl ?_
  refine s_pass rfl ?_
  refine s_pass rfl ?_
  refine s_pass rfl ?_
  refine s_pure (.bool false) (fun _ q => q) ?_
  refine s_pure (.bool false) (fun _ q => q) ?_
  refine s_nil ?_
  refine p_seqN ?_
  refine v_ret ?_
  refine p_ret [.bool false] (.bool false) (fun _ q => q) rfl ?_
  have ho : (decide (a = b)) = false := by simp only [pkp_ext]; simp [*]
  exact ⟨by first | (rw [ho]; done) | rfl, E7⟩

theorem laws_pSamePackets_ok (v_a : Value) (a : List Pk) (d_a : List (PkP)) (v_b : Value) (b : List Pk) (d_b : List (PkP)) (h : Heap) (s_a : Sl h v_a a) (in_a : ∀ p ∈ a, Sl h p.sv.v p.sig) (hd_a : a.map Pk.p = d_a) (s_b : Sl h v_b b) (in_b : ∀ p ∈ b, Sl h p.sv.v p.sig) (hd_b : b.map Pk.p = d_b) : Cn f_laws_pSamePackets [v_a, v_b] h fun v h' => v = .bool (decide (d_a = d_b)) ∧ Ext h h' := by
 subst hd_a
 have lt_a := s_a.lt
 have l63_a := s_a.len63
 have inlt_a := fun p hp => (in_a p hp).lt
 subst hd_b
 have lt_b := s_b.lt
 have l63_b := s_b.len63
 have inlt_b := fun p hp => (in_b p hp).lt
 refine calls_of r_laws_pSamePackets ?_
 refine v_seq ?_
 refine v_ops ?_
 refine s_pure (.bool false) (fun _ q => q) ?_
 refine s_nil ?_
 refine p_seqN ?_
 refine v_seq ?_
 refine v_seq ?_
 refine v_ops ?_
 refine s_pure v_a (fun _ q => q) ?_
 refine s_pure (.int .i64 (a.length : Int)) (fun _ q => s_a.lenVC q) ?_
 refine s_pure v_b (fun _ q => q) ?_
 refine s_pure (.int .i64 (b.length : Int)) (fun _ q => s_b.lenVC q) ?_
 refine s_pure (.bool ((a.length : Int) != (b.length : Int))) (fun _ q => q) ?_
 refine s_nil ?_
 refine p_seqN ?_
 refine v_cond rfl (fun c1 => ?_) (fun c1 => ?_)
 ·
  refine v_seq ?_
  refine v_ops ?_
  refine s_pure (.bool false) (fun _ q => q) ?_
  refine s_nil ?_
  refine p_seqN ?_
  refine v_ret ?_
  refine p_seqR ?_
  refine p_ret [.bool false] (.bool false) (fun _ q => q) rfl ?_
  have ho : (decide ((a.map Pk.p) = (b.map Pk.p))) = false := by first | exact decide_eq_true (mq_done hab (by assumption) (by assumption)) | exact decide_eq_false (mq_ne (by assumption) (by assumption) (by first | assumption | (simp_all; done))) | exact decide_eq_false (fun hc => absurd (mq_len hc) (by assumption))
  exact ⟨by first | (rw [ho]; done) | rfl, (Ext.refl h)⟩
 ·
  have c1 := Classical.not_not.1 c1
  refine v_skip ?_
  refine p_seqN ?_
  refine v_seq ?_
  refine v_seq ?_
  refine v_ops ?_
  refine s_pure v_a (fun _ q => q) ?_
  refine s_pure (.int .i64 (a.length : Int)) (fun _ q => s_a.lenVC q) ?_
  refine s_pure (.int .i64 0) (fun _ q => q) ?_
  refine s_nil ?_
  refine p_seqN ?_
  refine v_block ?_
  refine v_loop1 (α := Nat) (fun k => [(0, v_a), (1, v_b), (12, .int .i64 (a.length : Int)), (13, .int .i64 (k : Int))]) (fun k hh => Ext h hh ∧ k ≤ a.length ∧ (a.map Pk.p).take k = (b.map Pk.p).take k) (fun k => a.length - k) 0 ⟨rfl, rfl, rfl, rfl⟩ ⟨(Ext.refl h), (by simp)⟩ ?_
  rintro k R3 h2 ⟨Eh, ⟨hk, hab⟩⟩
  have zEh := Eh.size
  have f5 := s_a.ext Eh
  have in6 := fun p hp => (in_a p hp).ext Eh
  have f7 := s_b.ext Eh
  have in8 := fun p hp => (in_b p hp).ext Eh
  refine v_seq ?_
  refine v_ops ?_
  refine s_pure (.bool (decide ((k : Int) < (a.length : Int)))) (fun _ q => q) ?_
  refine s_nil ?_
  refine p_seqN ?_
  refine v_seq ?_
  refine v_cond rfl (fun c9 => ?_) (fun c9 => ?_)
  ·
   refine v_skip ?_
   refine p_seqN ?_
   refine v_seq ?_
   refine v_block ?_
   refine v_seq ?_
   refine v_ops ?_
   refine s_pure (.int .i64 (k : Int)) (fun _ q => q) ?_
   refine s_pure (.int .i64 (k : Int)) (fun _ q => q) ?_
   refine s_nil ?_
   refine p_seqN ?_
   refine v_seq ?_
   refine v_drawF ?_
   refine d_pureT v_a (fun _ q => q) ?_
   refine d_pureT (.int .i64 (k : Int)) (fun _ q => q) ?_
   have hk10 : k < a.length := (by first | omega | (simp; omega))
   obtain ⟨x11, hx11⟩ : ∃ x, a[k]? = some x := ⟨_, List.getElem?_eq_getElem hk10⟩
   refine d_pureT (.pointer (some ⟨sblk v_a, soff v_a + k * 4, none⟩)) (fun _ q => f5.idx (k := k) rfl hk10 q) ?_
   refine d_pureT v_b (fun _ q => q) ?_
   refine d_pureT (.int .i64 (k : Int)) (fun _ q => q) ?_
   have hk12 : k < b.length := (by first | omega | (simp; omega))
   obtain ⟨x13, hx13⟩ : ∃ x, b[k]? = some x := ⟨_, List.getElem?_eq_getElem hk12⟩
   refine d_pureT (.pointer (some ⟨sblk v_b, soff v_b + k * 4, none⟩)) (fun _ q => f7.idx (k := k) rfl hk12 q) ?_
   have s14 := in6 x11 (List.mem_of_getElem? hx11)
   refine d_loadO (.agg #[.int .i64 x11.message, .int .i64 x11.part, .int .i64 x11.parts, x11.sv.v]) (fun _ q => f5.loadN hx11 rfl q) ?_
   have s15 := in8 x13 (List.mem_of_getElem? hx13)
   refine d_loadO (.agg #[.int .i64 x13.message, .int .i64 x13.part, .int .i64 x13.parts, x13.sv.v]) (fun _ q => f7.loadN hx13 rfl q) ?_
   refine d_eff ?_
   refine s_call [.agg #[.int .i64 x11.message, .int .i64 x11.part, .int .i64 x11.parts, x11.sv.v], .agg #[.int .i64 x13.message, .int .i64 x13.part, .int .i64 x13.parts, x13.sv.v]] rfl (laws_pSamePacket_ok (Pk.p x11) x11.sv.v (Pk.p x13) x13.sv.v _ s14 s15) ?_
   rintro _ h16 ⟨rfl, eh16⟩
   have E17 := Eh.trans eh16
   have z18 := eh16.size
   have G19 := eh16
   refine s_nil ⟨fun hl => (by cases hl), ?_⟩
   refine d_pureT (.bool (!(decide ((Pk.p x11) = (Pk.p x13))))) (fun _ q => q) ?_
   refine d_done ?_
   refine p_seqN ?_
   refine v_cond rfl (fun c20 => ?_) (fun c20 => ?_)
   ·
    refine v_seq ?_
    refine v_ops ?_
    refine s_pure (.bool false) (fun _ q => q) ?_
    refine s_nil ?_
    refine p_seqN ?_
    refine v_ret ?_
    refine p_blkR ?_
    refine p_seqR ?_
    refine p_lpR ?_
    refine p_blkR ?_
    refine p_seqR ?_
    refine p_ret [.bool false] (.bool false) (fun _ q => q) rfl ?_
    have ho : (decide ((a.map Pk.p) = (b.map Pk.p))) = false := by first | exact decide_eq_true (mq_done hab (by assumption) (by assumption)) | exact decide_eq_false (mq_ne (by assumption) (by assumption) (by first | assumption | (simp_all; done))) | exact decide_eq_false (fun hc => absurd (mq_len hc) (by assumption))
    exact ⟨by first | (rw [ho]; done) | rfl, E17⟩
   ·
    have c20 := Classical.not_not.1 c20
    refine v_skip ?_
    refine p_blkN ?_
    refine p_seqN ?_
    refine v_ops ?_
    refine s_pure (.int .i64 ((k : Int) + 1)) (fun _ q => ArithVC.mk (by omega) q) ?_
    refine s_pure (.int .i64 ((k : Int) + 1)) (fun _ q => q) ?_
    refine s_nil ?_
    exact p_lpN ⟨k + 1, ⟨rfl, rfl, rfl, rfl⟩, ⟨E17, (by exact ⟨by omega, mq_step hab (by assumption) (by assumption) (by first | assumption | (simp_all; done))⟩)⟩, by omega⟩
  ·
   refine v_exit ?_
   refine p_seqX ?_
   refine p_lpX ?_
   refine p_blkX ?_
   refine p_seqN ?_
   refine v_seq ?_
   refine v_ops ?_
   refine s_pure (.bool true) (fun _ q => q) ?_
   refine s_nil ?_
   refine p_seqN ?_
   refine v_ret ?_
   refine p_ret [.bool true] (.bool true) (fun _ q => q) rfl ?_
   have ho : (decide ((a.map Pk.p) = (b.map Pk.p))) = true := by first | exact decide_eq_true (mq_done hab (by assumption) (by assumption)) | exact decide_eq_false (mq_ne (by assumption) (by assumption) (by first | assumption | (simp_all; done))) | exact decide_eq_false (fun hc => absurd (mq_len hc) (by assumption))
   exact ⟨by first | (rw [ho]; done) | rfl, Eh⟩

theorem laws_sameLists_ok (v_a : Value) (a : List RowI) (d_a : List (List Int)) (v_b : Value) (b : List RowI) (d_b : List (List Int)) (h : Heap) (s_a : Sl h v_a a) (in_a : ∀ p ∈ a, Sl h p.sv.v p.sig) (hd_a : a.map RowI.sig = d_a) (s_b : Sl h v_b b) (in_b : ∀ p ∈ b, Sl h p.sv.v p.sig) (hd_b : b.map RowI.sig = d_b) : Cn f_laws_sameLists [v_a, v_b] h fun v h' => v = .bool (decide (d_a = d_b)) ∧ Ext h h' := by
 subst hd_a
 have lt_a := s_a.lt
 have l63_a := s_a.len63
 have inlt_a := fun p hp => (in_a p hp).lt
 subst hd_b
 have lt_b := s_b.lt
 have l63_b := s_b.len63
 have inlt_b := fun p hp => (in_b p hp).lt
 refine calls_of r_laws_sameLists ?_
 refine v_seq ?_
 refine v_ops ?_
 refine s_pure (.bool false) (fun _ q => q) ?_
 refine s_nil ?_
 refine p_seqN ?_
 refine v_seq ?_
 refine v_seq ?_
 refine v_ops ?_
 refine s_pure v_a (fun _ q => q) ?_
 refine s_pure (.int .i64 (a.length : Int)) (fun _ q => s_a.lenVC q) ?_
 refine s_pure v_b (fun _ q => q) ?_
 refine s_pure (.int .i64 (b.length : Int)) (fun _ q => s_b.lenVC q) ?_
 refine s_pure (.bool ((a.length : Int) != (b.length : Int))) (fun _ q => q) ?_
 refine s_nil ?_
 refine p_seqN ?_
 refine v_cond rfl (fun c1 => ?_) (fun c1 => ?_)
 ·
  refine v_seq ?_
  refine v_ops ?_
  refine s_pure (.bool false) (fun _ q => q) ?_
  refine s_nil ?_
  refine p_seqN ?_
  refine v_ret ?_
  refine p_seqR ?_
  refine p_ret [.bool false] (.bool false) (fun _ q => q) rfl ?_
  have ho : (decide ((a.map RowI.sig) = (b.map RowI.sig))) = false := by first | exact decide_eq_true (mq_done hab (by assumption) (by assumption)) | exact decide_eq_false (mq_ne (by assumption) (by assumption) (by first | assumption | (simp_all; done))) | exact decide_eq_false (fun hc => absurd (mq_len hc) (by assumption))
  exact ⟨by first | (rw [ho]; done) | rfl, (Ext.refl h)⟩
 ·
  have c1 := Classical.not_not.1 c1
  refine v_skip ?_
  refine p_seqN ?_
  refine v_seq ?_
  refine v_seq ?_
  refine v_ops ?_
  refine s_pure v_a (fun _ q => q) ?_
  refine s_pure (.int .i64 (a.length : Int)) (fun _ q => s_a.lenVC q) ?_
  refine s_pure (.int .i64 0) (fun _ q => q) ?_
  refine s_nil ?_
  refine p_seqN ?_
  refine v_block ?_
  refine v_loop1 (α := Nat) (fun k => [(0, v_a), (1, v_b), (12, .int .i64 (a.length : Int)), (13, .int .i64 (k : Int))]) (fun k hh => Ext h hh ∧ k ≤ a.length ∧ (a.map RowI.sig).take k = (b.map RowI.sig).take k) (fun k => a.length - k) 0 ⟨rfl, rfl, rfl, rfl⟩ ⟨(Ext.refl h), (by simp)⟩ ?_
  rintro k R3 h2 ⟨Eh, ⟨hk, hab⟩⟩
  have zEh := Eh.size
  have f5 := s_a.ext Eh
  have in6 := fun p hp => (in_a p hp).ext Eh
  have f7 := s_b.ext Eh
  have in8 := fun p hp => (in_b p hp).ext Eh
  refine v_seq ?_
  refine v_ops ?_
  refine s_pure (.bool (decide ((k : Int) < (a.length : Int)))) (fun _ q => q) ?_
  refine s_nil ?_
  refine p_seqN ?_
  refine v_seq ?_
  refine v_cond rfl (fun c9 => ?_) (fun c9 => ?_)
  ·
   refine v_skip ?_
   refine p_seqN ?_
   refine v_seq ?_
   refine v_block ?_
   refine v_seq ?_
   refine v_ops ?_
   refine s_pure (.int .i64 (k : Int)) (fun _ q => q) ?_
   refine s_pure (.int .i64 (k : Int)) (fun _ q => q) ?_
   refine s_nil ?_
   refine p_seqN ?_
   refine v_seq ?_
   refine v_drawF ?_
   refine d_pureT v_a (fun _ q => q) ?_
   refine d_pureT (.int .i64 (k : Int)) (fun _ q => q) ?_
   have hk10 : k < a.length := (by first | omega | (simp; omega))
   obtain ⟨x11, hx11⟩ : ∃ x, a[k]? = some x := ⟨_, List.getElem?_eq_getElem hk10⟩
   refine d_pureT (.pointer (some ⟨sblk v_a, soff v_a + k * 1, none⟩)) (fun _ q => f5.idx (k := k) rfl hk10 q) ?_
   refine d_pureT v_b (fun _ q => q) ?_
   refine d_pureT (.int .i64 (k : Int)) (fun _ q => q) ?_
   have hk12 : k < b.length := (by first | omega | (simp; omega))
   obtain ⟨x13, hx13⟩ : ∃ x, b[k]? = some x := ⟨_, List.getElem?_eq_getElem hk12⟩
   refine d_pureT (.pointer (some ⟨sblk v_b, soff v_b + k * 1, none⟩)) (fun _ q => f7.idx (k := k) rfl hk12 q) ?_
   have s14 := in6 x11 (List.mem_of_getElem? hx11)
   refine d_loadO x11.sv.v (fun _ q => f5.load1 hx11 rfl q) ?_
   have s15 := in8 x13 (List.mem_of_getElem? hx13)
   refine d_loadO x13.sv.v (fun _ q => f7.load1 hx13 rfl q) ?_
   refine d_eff ?_
   refine s_call [x11.sv.v, x13.sv.v] rfl (laws_sameInts_ok x11.sv.v x11.sig x13.sv.v x13.sig _ s14 s15) ?_
   rintro _ h16 ⟨rfl, eh16⟩
   have E17 := Eh.trans eh16
   have z18 := eh16.size
   have G19 := eh16
   refine s_nil ⟨fun hl => (by cases hl), ?_⟩
   refine d_pureT (.bool (!(decide (x11.sig = x13.sig)))) (fun _ q => q) ?_
   refine d_done ?_
   refine p_seqN ?_
   refine v_cond rfl (fun c20 => ?_) (fun c20 => ?_)
   ·
    refine v_seq ?_
    refine v_ops ?_
    refine s_pure (.bool false) (fun _ q => q) ?_
    refine s_nil ?_
    refine p_seqN ?_
    refine v_ret ?_
    refine p_blkR ?_
    refine p_seqR ?_
    refine p_lpR ?_
    refine p_blkR ?_
    refine p_seqR ?_
    refine p_ret [.bool false] (.bool false) (fun _ q => q) rfl ?_
    have ho : (decide ((a.map RowI.sig) = (b.map RowI.sig))) = false := by first | exact decide_eq_true (mq_done hab (by assumption) (by assumption)) | exact decide_eq_false (mq_ne (by assumption) (by assumption) (by first | assumption | (simp_all; done))) | exact decide_eq_false (fun hc => absurd (mq_len hc) (by assumption))
    exact ⟨by first | (rw [ho]; done) | rfl, E17⟩
   ·
    have c20 := Classical.not_not.1 c20
    refine v_skip ?_
    refine p_blkN ?_
    refine p_seqN ?_
    refine v_ops ?_
    refine s_pure (.int .i64 ((k : Int) + 1)) (fun _ q => ArithVC.mk (by omega) q) ?_
    refine s_pure (.int .i64 ((k : Int) + 1)) (fun _ q => q) ?_
    refine s_nil ?_
    exact p_lpN ⟨k + 1, ⟨rfl, rfl, rfl, rfl⟩, ⟨E17, (by exact ⟨by omega, mq_step hab (by assumption) (by assumption) (by first | assumption | (simp_all; done))⟩)⟩, by omega⟩
  ·
   refine v_exit ?_
   refine p_seqX ?_
   refine p_lpX ?_
   refine p_blkX ?_
   refine p_seqN ?_
   refine v_seq ?_
   refine v_ops ?_
   refine s_pure (.bool true) (fun _ q => q) ?_
   refine s_nil ?_
   refine p_seqN ?_
   refine v_ret ?_
   refine p_ret [.bool true] (.bool true) (fun _ q => q) rfl ?_
   have ho : (decide ((a.map RowI.sig) = (b.map RowI.sig))) = true := by first | exact decide_eq_true (mq_done hab (by assumption) (by assumption)) | exact decide_eq_false (mq_ne (by assumption) (by assumption) (by first | assumption | (simp_all; done))) | exact decide_eq_false (fun hc => absurd (mq_len hc) (by assumption))
   exact ⟨by first | (rw [ho]; done) | rfl, Eh⟩

end Go.Proofs.Ytjmcijcdncgaiaa

