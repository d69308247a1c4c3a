/- Pk13, Pk14, Cur, Cu1, RdO, Merge. Condition: none. -/
import Derived.Test.YtjmcijcdncgaiaaMgC
import Derived.Test.YtjmcijcdncgaiaaStep2
import Derived.Test.YtjmcijcdncgaiaaMgA
/- Sorted packets. Condition: none. Printed in part by a program. -/
namespace Go.Proofs.Ytjmcijcdncgaiaa
open Go.Vc
set_option linter.all false

abbrev ppKey (p : PkP) : K2 := (p.message, p.part)
instance (a b : K2) : Decidable (ltK a b) := inferInstanceAs (Decidable (_ ∨ _))
abbrev ordP (l : List PkP) : Prop := l.Pairwise fun x y => ¬ ltK (ppKey y) (ppKey x)
abbrev clsP (c : K2) (l : List PkP) : List PkP := l.filter fun x => decide (ppKey x = c)
def insP (p : PkP) (o : List PkP) : List PkP := o.filter (fun x => !decide (ltK (ppKey p) (ppKey x))) ++ p :: o.filter (fun x => decide (ltK (ppKey p) (ppKey x)))
def srtL (l : List PkP) : List PkP := l.foldl (fun o p => insP p o) []
theorem srt_snoc (l : List PkP) (p : PkP) : srtL (l ++ [p]) = insP p (srtL l) := by simp [srtL]
theorem ins_ord {p : PkP} {o : List PkP} (h : ordP o) : ordP (insP p o) := by
  unfold insP
  rw [ordP, List.pairwise_append, List.pairwise_cons]
  refine ⟨h.filter _, ⟨fun y hy => ?_, h.filter _⟩, fun x hx y hy => ?_⟩
  · have := (List.mem_filter.1 hy).2
    simp only [decide_eq_true_eq] at this
    exact fun hc => ltK_irr (ltK_tr this hc)
  · have hx2 := (List.mem_filter.1 hx).2
    simp only [Bool.not_eq_eq_eq_not, Bool.not_true, decide_eq_false_iff_not] at hx2
    rcases List.mem_cons.1 hy with rfl | hy
    · exact hx2
    · have := (List.mem_filter.1 hy).2
      simp only [decide_eq_true_eq] at this
      exact fun hc => hx2 (ltK_tr this hc)
theorem filt_two {α : Type} (C A : α → Bool) (o : List α) (h : ∀ x, C x = true → A x = true) : (o.filter (fun x => !A x)).filter C = [] ∧ (o.filter A).filter C = o.filter C := by
  refine ⟨?_, ?_⟩
  · rw [List.filter_filter]
    refine List.filter_eq_nil_iff.2 fun x _ hx => ?_
    cases hc : C x
    · rw [hc] at hx; simp at hx
    · rw [hc, h x hc] at hx; simp at hx
  · rw [List.filter_filter]
    refine List.filter_congr fun x _ => ?_
    cases hc : C x
    · rfl
    · rw [h x hc]; rfl
theorem filt_two2 {α : Type} (C A : α → Bool) (o : List α) (h : ∀ x, C x = true → A x = false) : (o.filter (fun x => !A x)).filter C = o.filter C ∧ (o.filter A).filter C = [] := by
  refine ⟨?_, ?_⟩
  · rw [List.filter_filter]
    refine List.filter_congr fun x _ => ?_
    cases hc : C x
    · rfl
    · rw [h x hc]; rfl
  · rw [List.filter_filter]
    refine List.filter_eq_nil_iff.2 fun x _ hx => ?_
    cases hc : C x
    · rw [hc] at hx; simp at hx
    · rw [hc, h x hc] at hx; simp at hx
theorem ins_cls (p : PkP) (o : List PkP) (c : K2) : clsP c (insP p o) = clsP c (o ++ [p]) := by
  have key : ∀ o : List PkP, clsP c (o.filter (fun x => !decide (ltK (ppKey p) (ppKey x)))) = (if ltK (ppKey p) c then [] else clsP c o) ∧ clsP c (o.filter (fun x => decide (ltK (ppKey p) (ppKey x)))) = (if ltK (ppKey p) c then clsP c o else []) := by
    intro o
    by_cases hl : ltK (ppKey p) c
    · rw [if_pos hl, if_pos hl]
      exact filt_two _ _ o fun x hx => by
        have hx := of_decide_eq_true hx
        exact decide_eq_true (by rw [hx]; exact hl)
    · rw [if_neg hl, if_neg hl]
      exact filt_two2 _ _ o fun x hx => by
        have hx := of_decide_eq_true hx
        exact decide_eq_false (by rw [hx]; exact hl)
  unfold insP
  have k := key o
  simp only [clsP] at k ⊢
  rw [List.filter_append, List.filter_append, k.1, List.filter_cons, k.2]
  by_cases hp : ppKey p = c
  · subst hp
    simp [ltK_irr]
  · by_cases hl : ltK (ppKey p) c
    · simp [hl, hp]
    · simp [hl, hp]
theorem srt_props (l : List PkP) : ordP (srtL l) ∧ ∀ c, clsP c (srtL l) = clsP c l := by
  have key : ∀ (l o : List PkP), ordP o → ordP (l.foldl (fun o p => insP p o) o) ∧ ∀ c, clsP c (l.foldl (fun o p => insP p o) o) = clsP c (o ++ l) := by
    intro l
    induction l with
    | nil => intro o ho; simpa using ho
    | cons p l ih =>
      intro o ho
      have := ih (insP p o) (ins_ord ho)
      refine ⟨this.1, fun c => ?_⟩
      rw [List.foldl_cons, this.2 c]
      have e := ins_cls p o c
      simp only [clsP, List.filter_append] at e ⊢
      rw [e, List.append_assoc]
      congr 1
      rw [← List.filter_append]; rfl
  have := key l [] List.Pairwise.nil
  exact ⟨this.1, fun c => (this.2 c).trans (by rw [List.nil_append])⟩
theorem ins_len (p : PkP) (o : List PkP) : (insP p o).length = o.length + 1 := by
  unfold insP
  have : ∀ (f : PkP → Bool) (o : List PkP), (o.filter (fun x => !f x)).length + (o.filter f).length = o.length := by
    intro f o
    induction o with
    | nil => rfl
    | cons x o ih => simp only [List.filter_cons]; cases f x <;> simp <;> omega
  have := this (fun x => decide (ltK (ppKey p) (ppKey x))) o
  simp only [List.length_append, List.length_cons]; omega
theorem srt_len (l : List PkP) : (srtL l).length = l.length := by
  have key : ∀ (l o : List PkP), (l.foldl (fun o p => insP p o) o).length = o.length + l.length := by
    intro l
    induction l with
    | nil => intro o; rfl
    | cons p l ih => intro o; rw [List.foldl_cons, ih, ins_len, List.length_cons]; omega
  simpa [srtL] using key l []
theorem so_iff {α : Type} {key : α → K2} {d : List α} : SoOn key d 0 d.length ↔ d.Pairwise fun x y => ¬ ltK (key y) (key x) := by
  rw [List.pairwise_iff_getElem]
  constructor
  · intro h i j hi hj hij
    exact h i j (by omega) hij hj _ _ (List.getElem?_eq_getElem hi) (List.getElem?_eq_getElem hj)
  · intro h i j _ hij hj x y hx hy
    obtain ⟨h1, rfl⟩ := List.getElem?_eq_some_iff.1 hx
    obtain ⟨h2, rfl⟩ := List.getElem?_eq_some_iff.1 hy
    exact h i j h1 h2 hij
theorem srt_of {d l : List PkP} (h : ordP d) (hc : ∀ c, clsP c d = clsP c l) : d = srtL l :=
 so_unique (key := ppKey) (so_iff.2 (srt_props l).1) (so_iff.2 h) fun c => (hc c).trans ((srt_props l).2 c).symm
/-- sorted in place -/
theorem srt_in {ps q : List Pk} {l : List PkP} (hps : ps.map Pk.p = l) (h : Like pkKey ps q 0 ps.length ∧ SoOn pkKey q 0 ps.length) : q.map Pk.p = srtL l := by
  have h2 := h.2
  rw [← h.1.len] at h2
  refine srt_of ?_ fun c => ?_
  · rw [ordP, List.pairwise_map]
    exact so_iff.1 h2
  · have := h.1.cls c
    rw [clsP, clsP, ← hps, List.filter_map, List.filter_map]
    exact congrArg (List.map Pk.p) this
noncomputable def srtOut (l : List PkP) : List PkP × Bool := if PksOk l then (srtL l, true) else ([], false)
theorem so_no {l : List PkP} (h : ¬ PksOk l) : srtOut l = ([], false) := by rw [srtOut, if_neg h]
theorem so_yes {l : List PkP} (h : PksOk l) : srtOut l = (srtL l, true) := by rw [srtOut, if_pos h]
theorem so_impl {ps q l : List Pk} {k : Nat} (hok : PksOk (l.map Pk.p)) (hps : ps.map Pk.p = (l.map Pk.p).take k) (hk : ¬ (k : Int) < (l.length : Int)) (h : Like pkKey ps q 0 ps.length ∧ SoOn pkKey q 0 ps.length) : srtOut (l.map Pk.p) = (q.map Pk.p, true) := by
 rw [take_all (by simpa using hk)] at hps
 rw [so_yes hok, srt_in hps h]
theorem so_spec {ps l : List Pk} {k : Nat} (hok : PksOk (l.map Pk.p)) (hps : ps.map Pk.p = srtL ((l.map Pk.p).take k)) (hk : ¬ (k : Int) < (l.length : Int)) : srtOut (l.map Pk.p) = (ps.map Pk.p, true) := by
 rw [take_all (by simpa using hk)] at hps
 rw [so_yes hok, hps]
theorem ins_mid {o : List PkP} {p : PkP} {j : Nat} (h1 : ∀ y ∈ o.drop j, ltK (ppKey p) (ppKey y)) (h2 : ∀ y ∈ o.take j, ¬ ltK (ppKey p) (ppKey y)) : insP p o = o.take j ++ p :: o.drop j := by
 have e : o = o.take j ++ o.drop j := (List.take_append_drop j o).symm
 unfold insP
 have a1 : (o.take j).filter (fun x => !decide (ltK (ppKey p) (ppKey x))) = o.take j := List.filter_eq_self.2 fun y hy => by simp [h2 y hy]
 have a2 : (o.drop j).filter (fun x => !decide (ltK (ppKey p) (ppKey x))) = [] := List.filter_eq_nil_iff.2 fun y hy => by simp [h1 y hy]
 have a3 : (o.take j).filter (fun x => decide (ltK (ppKey p) (ppKey x))) = [] := List.filter_eq_nil_iff.2 fun y hy => by simp [h2 y hy]
 have a4 : (o.drop j).filter (fun x => decide (ltK (ppKey p) (ppKey x))) = o.drop j := List.filter_eq_self.2 fun y hy => by simp [h1 y hy]
 rw [show o.filter (fun x => !decide (ltK (ppKey p) (ppKey x))) = (o.take j ++ o.drop j).filter (fun x => !decide (ltK (ppKey p) (ppKey x))) by rw [← e],
  show o.filter (fun x => decide (ltK (ppKey p) (ppKey x))) = (o.take j ++ o.drop j).filter (fun x => decide (ltK (ppKey p) (ppKey x))) by rw [← e], List.filter_append, List.filter_append, a1, a2, a3, a4]
 simp
theorem nlt_tr3 {a b c : K2} (h : ¬ ltK b a) (k : ¬ ltK c b) : ¬ ltK c a := by unfold ltK at *; omega
theorem ins_step {ps l : List Pk} {k : Nat} {x e : Pk} {j : Int} (hps : ps.map Pk.p = srtL ((l.map Pk.p).take k)) (hx : l[k]? = some x) (he : e.p = x.p) (h0 : 0 ≤ j) (hj : j ≤ (ps.length : Int)) (h1 : ∀ (i : Nat) y, j ≤ (i : Int) → ps[i]? = some y → ltK (pkKey x) (pkKey y))
    (h2 : ∀ y, 0 < j → ps[(j - 1).toNat]? = some y → ¬ ltK (pkKey x) (pkKey y)) : (ps.take j.toNat ++ [e] ++ ps.drop j.toNat).map Pk.p = srtL ((l.map Pk.p).take (k + 1)) := by
  have ho := (srt_props ((l.map Pk.p).take k)).1
  rw [← hps] at ho
  rw [snoc_get (map_get hx), srt_snoc, ← hps, ins_mid (j := j.toNat)]
  · simp [he]
  · intro y hy
    rw [← List.map_drop] at hy
    obtain ⟨z, hz, rfl⟩ := List.mem_map.1 hy
    obtain ⟨i, hi⟩ := List.mem_iff_getElem?.1 hz
    rw [List.getElem?_drop] at hi
    exact h1 _ z (by omega) hi
  · intro y hy
    rw [← List.map_take] at hy
    obtain ⟨z, hz, rfl⟩ := List.mem_map.1 hy
    obtain ⟨i, hi⟩ := List.mem_iff_getElem?.1 hz
    have hij : i < j.toNat := by
      have := (List.getElem?_eq_some_iff.1 hi).1
      rw [List.length_take] at this; omega
    rw [List.getElem?_take_of_lt hij] at hi
    have hm : (j - 1).toNat < ps.length := by omega
    have t := h2 _ (by omega) (List.getElem?_eq_getElem hm)
    by_cases hc : i = (j - 1).toNat
    · subst hc
      rw [List.getElem?_eq_getElem hm] at hi
      obtain rfl := Option.some.inj hi
      exact t
    · rw [ordP, List.pairwise_map] at ho
      have hi2 := List.getElem?_eq_some_iff.1 hi
      have := List.pairwise_iff_getElem.1 ho i (j - 1).toNat hi2.1 hm (by omega)
      rw [hi2.2] at this
      exact nlt_tr3 this t

end Go.Proofs.Ytjmcijcdncgaiaa


/- Sorted packets: the code. Condition: none. Printed in part by a program. -/
namespace Go.Proofs.Ytjmcijcdncgaiaa
open Go.Vc
set_option linter.all false

theorem perm_of {ps q : List Pk} (h : Like pkKey ps q 0 ps.length) : q.Perm ps := by
 classical
 rw [List.perm_iff_count]
 intro x
 have key : ∀ d : List Pk, d.count x = (d.filter fun y => decide (pkKey y = pkKey x)).count x := by
  intro d
  rw [List.count_filter (by simp)]
 rw [key q, key ps, h.cls (pkKey x)]
theorem DeepO.perm {h h' : Heap} {v : Value} {ps q : List Pk} {lo : Nat} (D : DeepO h v ps lo) (hp : q.Perm ps) (s' : SlO h' v q) (m : Mod (blks v) h h') : DeepO h' v q lo :=
  ⟨s', fun p hq => (D.ins p (hp.mem_iff.1 hq)).mod m (D.off p (hp.mem_iff.1 hq)), fun b hb => by
    rcases mem_fpts.1 hb with hb | ⟨p, hq, hb⟩
    · exact D.fr b (mem_fpts.2 (.inl hb))
    · exact D.fr b (mem_fpts.2 (.inr ⟨p, hp.mem_iff.1 hq, hb⟩)), fun p hq => D.off p (hp.mem_iff.1 hq),
    (hp.pairwise_iff (fun {p q} hpq b hb hc => hpq b hc hb)).2 D.apart⟩
theorem DeepO.mid {h : Heap} {v v' : Value} {ps : List Pk} {lo k : Nat} {e : Pk} (D : DeepO h v ps lo) (se : SlO h e.sv.v e.sig) (fe : Fr lo e.sv.v) (ap : ∀ b ∈ blks e.sv.v, b ∉ fpts v ps) (s' : SlO h v' (ps.take k ++ [e] ++ ps.drop k)) (f' : Fr lo v')
    (o1 : ∀ b ∈ fpts v ps, b ∉ blks v') (o2 : ∀ b ∈ blks e.sv.v, b ∉ blks v') : DeepO h v' (ps.take k ++ [e] ++ ps.drop k) lo := by
  have hin : ∀ p ∈ ps.take k ++ [e] ++ ps.drop k, p ∈ ps ∨ p = e := by
    intro p hp
    rcases List.mem_append.1 hp with hp | hp
    · rcases List.mem_append.1 hp with hp | hp
      · exact .inl (List.mem_of_mem_take hp)
      · exact .inr (List.mem_singleton.1 hp)
    · exact .inl (List.mem_of_mem_drop hp)
  refine ⟨s', fun p hp => ?_, fun b hb => ?_, fun p hp b hb => ?_, ?_⟩
  · rcases hin p hp with hp | rfl
    · exact D.ins p hp
    · exact se
  · rcases mem_fpts.1 hb with hb2 | ⟨p, hp, hb2⟩
    · exact f' b hb2
    · rcases hin p hp with hp | rfl
      · exact D.fr b (mem_fpts.2 (.inr ⟨p, hp, hb2⟩))
      · exact fe b hb2
  · rcases hin p hp with hp | rfl
    · exact o1 b (mem_fpts.2 (.inr ⟨p, hp, hb⟩))
    · exact o2 b hb
  · have hA := D.apart
    rw [← List.take_append_drop k ps, List.pairwise_append] at hA
    rw [List.pairwise_append, List.pairwise_append]
    refine ⟨⟨hA.1, List.pairwise_singleton _ _, fun p hp q hq b hb hc => ?_⟩, hA.2.1, fun p hp q hq b hb hc => ?_⟩
    · obtain rfl := List.mem_singleton.1 hq
      exact ap b hc (mem_fpts.2 (.inr ⟨p, List.mem_of_mem_take hp, hb⟩))
    · rcases List.mem_append.1 hp with hp | hp
      · exact hA.2.2 p hp q hq b hb hc
      · obtain rfl := List.mem_singleton.1 hp
        exact ap b hb (mem_fpts.2 (.inr ⟨q, List.mem_of_mem_drop hq, hc⟩))
theorem keep_take {ps l : List Pk} {k : Nat} {x e : Pk} (hps : ps.map Pk.p = (l.map Pk.p).take k) (hx : l[k]? = some x) (he : e.p = x.p) : (ps ++ [e]).map Pk.p = (l.map Pk.p).take (k + 1) := by
 rw [snoc_get (map_get hx), ← hps, List.map_append, ← he]; rfl

set_option maxRecDepth 10000 in
set_option maxHeartbeats 4000000 in
theorem impl_SortPackets_ok (v_l : Value) (l : List Pk) (d_l : List (PkP)) (h : Heap) (s_l : Sl h v_l l) (in_l : ∀ p ∈ l, Sl h p.sv.v p.sig) (hd_l : l.map Pk.p = d_l) : Cn f_impl_SortPackets [v_l] h fun v h' => ∃ r0 : Value, ∃ qr0 : List Pk, v = .tuple #[r0, .bool ((srtOut d_l).2)] ∧ DeepO h' r0 qr0 h.size ∧ qr0.map Pk.p = (srtOut d_l).1 ∧ Ext h h' := by
 subst hd_l
 have lt_l := s_l.lt
 have l63_l := s_l.len63
 have inlt_l := fun p hp => (in_l p hp).lt
 refine calls_of r_impl_SortPackets ?_
 refine v_seq ?_
 refine v_ops ?_
 refine s_pure (.slice none 0 0) (fun _ q => q) ?_
 refine s_pure (.bool false) (fun _ q => q) ?_
 refine s_nil ?_
 refine p_seqN ?_
 refine v_seq ?_
 refine v_seq ?_
 refine v_ops ?_
 refine s_pure v_l (fun _ q => q) ?_
 refine s_call [v_l] rfl (impl_ArePackets_ok v_l l (l.map Pk.p) _ s_l in_l rfl) ?_
 rintro _ h1 ⟨rfl, eh1⟩
 have E2 := (Ext.refl h).trans eh1
 have z3 := eh1.size
 refine s_pure (.bool (!decide (PksOk (l.map Pk.p)))) (fun _ q => q) ?_
 refine s_nil ?_
 refine p_seqN ?_
 refine v_cond rfl (fun c4 => ?_) (fun c4 => ?_)
 ·
  refine v_seq ?_
  refine v_ops ?_
  refine s_pure (.slice none 0 0) (fun _ q => q) ?_
  refine s_pure (.bool false) (fun _ q => q) ?_
  refine s_nil ?_
  refine p_seqN ?_
  refine v_ret ?_
  refine p_seqR ?_
  refine p_ret [.slice none 0 0, .bool false] (.tuple #[.slice none 0 0, .bool false]) (fun _ q => q) rfl ?_
  have ho : srtOut (l.map Pk.p) = ([], false) := by first | exact so_no (by assumption) | exact so_impl (by assumption) hps (by assumption) (by assumption)
  exact ⟨(.slice none 0 0), [], by first | (rw [ho]; done) | rfl, DeepO.nil _ _, (congrArg (fun o => o.1) ho).symm, E2⟩
 ·
  have c4 := Classical.not_not.1 c4
  refine v_skip ?_
  refine p_seqN ?_
  refine v_seq ?_
  refine v_ops ?_
  refine s_pure (.slice none 0 0) (fun _ q => q) ?_
  refine s_nil ?_
  refine p_seqN ?_
  refine v_seq ?_
  refine v_seq ?_
  refine v_ops ?_
  refine s_pure v_l (fun _ q => q) ?_
  refine s_pure (.int .i64 (l.length : Int)) (fun _ q => s_l.lenVC q) ?_
  refine s_pure (.int .i64 0) (fun _ q => q) ?_
  refine s_nil ?_
  refine p_seqN ?_
  refine v_block ?_
  have hl40 : l.length ≤ 40 := by (have h4 := (by assumption : PksOk (l.map Pk.p)).1); simpa using h4
  refine v_loop3 (α := Nat) (β := List Pk) (γ := Value) (fun k ps o => [(4, o), (10, v_l), (11, .int .i64 (l.length : Int)), (12, .int .i64 (k : Int))]) (fun k ps o hh => Ext h hh ∧ DeepO hh o ps h.size ∧ k ≤ l.length ∧ ps.map Pk.p = (l.map Pk.p).take k) (fun k ps o => l.length - k) 0 [] (.slice none 0 0) ⟨rfl, rfl, rfl, rfl⟩ ⟨E2, (DeepO.nil _ _), (by simp)⟩ ?_
  rintro k ps o R6 h5 ⟨Eh, s_o, ⟨hk, hps⟩⟩
  have zEh := Eh.size
  have f8 := s_l.ext Eh
  have in9 := fun p hp => (in_l p hp).ext Eh
  have lt_o := s_o.lt
  have fr_o := s_o.fr
  have hpl : ps.length ≤ 40 := by (have h1 := congrArg List.length hps); simp only [List.length_map, List.length_take] at h1; omega
  refine v_seq ?_
  refine v_ops ?_
  refine s_pure (.bool (decide ((k : Int) < (l.length : Int)))) (fun _ q => q) ?_
  refine s_nil ?_
  refine p_seqN ?_
  refine v_seq ?_
  refine v_cond rfl (fun c10 => ?_) (fun c10 => ?_)
  ·
   refine v_skip ?_
   refine p_seqN ?_
   refine v_seq ?_
   refine v_block ?_
   refine v_seq ?_
   refine v_ops ?_
   have hk11 : k < l.length := (by first | omega | (simp; omega))
   obtain ⟨x12, hx12⟩ : ∃ x, l[k]? = some x := ⟨_, List.getElem?_eq_getElem hk11⟩
   refine s_pure (.pointer (some ⟨sblk v_l, soff v_l + k * 4, none⟩)) (fun _ q => f8.idx (k := k) rfl hk11 q) ?_
   have s13 := in9 x12 (List.mem_of_getElem? hx12)
   refine s_load (.agg #[.int .i64 x12.message, .int .i64 x12.part, .int .i64 x12.parts, x12.sv.v]) (fun _ q => f8.loadN hx12 rfl q) ?_
   refine s_new (fun h15 b14 hbb14 hzb14 eh15 bxb14 => ?_)
   have E16 := Eh.trans eh15
   have z17 := eh15.size
   have lbb14 := bxb14.lt
   refine s_stBx (.agg #[.int .i64 x12.message, .int .i64 x12.part, .int .i64 x12.parts, x12.sv.v]) [.int .i64 x12.message, .int .i64 x12.part, .int .i64 x12.parts, x12.sv.v] [.int .i64 x12.message, .int .i64 x12.part, .int .i64 x12.parts, x12.sv.v] bxb14 rfl rfl rfl rfl (by simp) (all_cons rfl (all_cons rfl (all_cons rfl (all_cons s13.one1 all_nil)))) rfl (fun h18 mh18 sh18 bxx19 => ?_)
   have E20 := E16.mod mh18 (fun b hb => by simp at hb; omega)
   refine s_nil ?_
   refine p_seqN ?_
   refine v_ops ?_
   refine s_pure o (fun _ q => q) ?_
   refine s_load (.agg #[.int .i64 x12.message, .int .i64 x12.part, .int .i64 x12.parts, x12.sv.v]) (fun _ q => bxx19.loadA rfl q) ?_
   have f21 := ((s13.ext eh15).mod mh18 (fun b hb hc => by simp at hc; have := (inlt_l x12 (List.mem_of_getElem? hx12)) b hb; omega))
   refine s_call [.agg #[.int .i64 x12.message, .int .i64 x12.part, .int .i64 x12.parts, x12.sv.v]] rfl (impl_clonePacket_ok (Pk.p x12) x12.sv.v _ f21 (by (have h3 := (by assumption : PksOk (l.map Pk.p)).2 _ (List.mem_map_of_mem (List.mem_of_getElem? (by assumption : l[k]? = some _)))); (have h4 := h3.2.2.2.1); simp only at h4 ⊢; omega)) ?_
   rintro _ h23 ⟨r22, rfl, s_r22, fr_r22, eh23⟩
   have E24 := E20.trans eh23
   have z25 := eh23.size
   have lt_r22 := s_r22.lt
   obtain ⟨sv26, rfl⟩ := s_r22.sv
   refine s_row (α := Pk) [(⟨(Pk.p x12).message, (Pk.p x12).part, (Pk.p x12).parts, sv26, (Pk.p x12).signals⟩ : Pk)] (fun _ q => seg_agg rfl rfl (seg_nil q)) rfl (by simp [maxLen]) (fun r27 h28 eh28 zh28 s_r27 fr_r27 => ?_)
   have E29 := E24.trans eh28
   have z30 := eh28.size
   have lt_r27 := s_r27.lt
   have f33 := (s_r22.ext eh28)
   have f34 := ((((s_o.ext eh15).mod mh18 (fun b hb hc => by simp at hc; have := lt_o b hb; omega)).ext eh23).ext eh28)
   refine s_app f34.row s_r27 rfl rfl rfl (by simp [maxLen]; omega) (by simp; omega) (fun r31 h32 mh32 zh32 s_r31 ab_r31 => ?_)
   have D_r31 := DeepO.snoc (e := (⟨(Pk.p x12).message, (Pk.p x12).part, (Pk.p x12).parts, sv26, (Pk.p x12).signals⟩ : Pk)) f34 f33 (fr_r22.mono (by omega)) (fun b hb hc => by have := fr_r22 b hb; have := lt_o b hc; omega) (by omega) mh32 s_r31 ab_r31
   have E35 := E29.mod mh32 (fun b hb => by have := (fun b hb => fr_o b (mem_fpts.2 (.inl hb))) b hb; omega)
   have lt_r31 := D_r31.lt
   have fr_r31 := D_r31.fr
   have np36a : ∀ b ∈ blks v_l, b ∉ fpts o ps := (fun b hb hc => by have := lt_l b hb; have := fr_o b hc; omega)
   have np36b : ∀ b ∈ blks v_l, b ∉ blks sv26.v := (fun b hb hc => by have := lt_l b hb; have := fr_r22 b hc; omega)
   have np36 : ∀ b ∈ blks v_l, b ∉ fpts r31 (ps ++ [(⟨(Pk.p x12).message, (Pk.p x12).part, (Pk.p x12).parts, sv26, (Pk.p x12).signals⟩ : Pk)]) := fun b hb => DeepO.snocOut ab_r31 (np36a b hb) (np36b b hb) (by have := lt_l b hb; omega)
   have np37a : ∀ b ∈ blks x12.sv.v, b ∉ fpts o ps := (fun b hb hc => by have := (inlt_l x12 (List.mem_of_getElem? hx12)) b hb; have := fr_o b hc; omega)
   have np37b : ∀ b ∈ blks x12.sv.v, b ∉ blks sv26.v := (fun b hb hc => by have := (inlt_l x12 (List.mem_of_getElem? hx12)) b hb; have := fr_r22 b hc; omega)
   have np37 : ∀ b ∈ blks x12.sv.v, b ∉ fpts r31 (ps ++ [(⟨(Pk.p x12).message, (Pk.p x12).part, (Pk.p x12).parts, sv26, (Pk.p x12).signals⟩ : Pk)]) := fun b hb => DeepO.snocOut ab_r31 (np37a b hb) (np37b b hb) (by have := (inlt_l x12 (List.mem_of_getElem? hx12)) b hb; omega)
   have np38 : b14 ∉ fpts r31 (ps ++ [(⟨(Pk.p x12).message, (Pk.p x12).part, (Pk.p x12).parts, sv26, (Pk.p x12).signals⟩ : Pk)]) := DeepO.snocOut ab_r31 (fun hc => by have := lt_o _ hc; omega) (fun hc => by have := fr_r22 _ hc; omega) (by omega)
   refine s_pure r31 (fun _ q => q) ?_
   refine s_nil ?_
   refine p_blkN ?_
   refine p_seqN ?_
   refine v_ops ?_
   refine s_pure (.int .i64 ((k : Int) + 1)) (fun _ q => ArithVC.mk (by omega) q) ?_
   refine s_pure (.int .i64 ((k : Int) + 1)) (fun _ q => q) ?_
   refine s_nil ?_
   exact p_lpN ⟨k + 1, (ps ++ [(⟨(Pk.p x12).message, (Pk.p x12).part, (Pk.p x12).parts, sv26, (Pk.p x12).signals⟩ : Pk)]), r31, ⟨rfl, rfl, rfl, rfl⟩, ⟨E35, (D_r31.mono (by omega)), (by exact ⟨by omega, keep_take (x := x12) hps (by assumption) rfl⟩)⟩, by omega⟩
  ·
   refine v_exit ?_
   refine p_seqX ?_
   refine p_lpX ?_
   refine p_blkX ?_
   refine p_seqN ?_
   refine v_seq ?_
   refine v_ops ?_
   refine s_pure o (fun _ q => q) ?_
   refine s_call [o, .func (.func 66) #[] #[]] rfl (slices_SortStableFunc_Limpl_Packet_impl_Packet_ok o ps _ s_o.row (by omega)) ?_
   rintro _ h39 ⟨rfl, q41, s40, mh39, hp42⟩
   have zh39 := mh39.size
   have hlq41 := hp42.1.len
   have D43 := DeepO.perm s_o (perm_of hp42.1) s40 mh39
   have E44 := Eh.mod mh39 (fun b hb => by have := (fun b hb => fr_o b (mem_fpts.2 (.inl hb))) b hb; omega)
   have frD43 := D43.fr
   have ltD43 := D43.lt
   refine s_nil ?_
   refine p_seqN ?_
   refine v_seq ?_
   refine v_ops ?_
   refine s_pure o (fun _ q => q) ?_
   refine s_pure o (fun _ q => q) ?_
   refine s_pure (.bool true) (fun _ q => q) ?_
   refine s_nil ?_
   refine p_seqN ?_
   refine v_ret ?_
   refine p_ret [o, .bool true] (.tuple #[o, .bool true]) (fun _ q => q) rfl ?_
   have ho : srtOut (l.map Pk.p) = ((q41.map Pk.p), true) := by first | exact so_no (by assumption) | exact so_impl (by assumption) hps (by assumption) (by assumption)
   exact ⟨o, q41, by first | (rw [ho]; done) | rfl, (D43.mono (by omega)), (congrArg (fun o => o.1) ho).symm, E44⟩

set_option maxRecDepth 10000 in
set_option maxHeartbeats 4000000 in
theorem spec_SortPackets_ok (v_l : Value) (l : List Pk) (d_l : List (PkP)) (h : Heap) (s_l : Sl h v_l l) (in_l : ∀ p ∈ l, Sl h p.sv.v p.sig) (hd_l : l.map Pk.p = d_l) : Cn f_spec_SortPackets [v_l] h fun v h' => ∃ r0 : Value, ∃ qr0 : List Pk, v = .tuple #[r0, .bool ((srtOut d_l).2)] ∧ DeepO h' r0 qr0 h.size ∧ qr0.map Pk.p = (srtOut d_l).1 ∧ Ext h h' := by
 subst hd_l
 have lt_l := s_l.lt
 have l63_l := s_l.len63
 have inlt_l := fun p hp => (in_l p hp).lt
 refine calls_of r_spec_SortPackets ?_
 refine v_seq ?_
 refine v_ops ?_
 refine s_pure (.slice none 0 0) (fun _ q => q) ?_
 refine s_pure (.bool false) (fun _ q => q) ?_
 refine s_nil ?_
 refine p_seqN ?_
 refine v_seq ?_
 refine v_seq ?_
 refine v_ops ?_
 refine s_pure v_l (fun _ q => q) ?_
 refine s_call [v_l] rfl (spec_pkAll_ok v_l l (l.map Pk.p) _ s_l in_l rfl) ?_
 rintro _ h1 ⟨rfl, eh1⟩
 have E2 := (Ext.refl h).trans eh1
 have z3 := eh1.size
 refine s_pure (.bool (!decide (PksOk (l.map Pk.p)))) (fun _ q => q) ?_
 refine s_nil ?_
 refine p_seqN ?_
 refine v_cond rfl (fun c4 => ?_) (fun c4 => ?_)
 ·
  refine v_seq ?_
  refine v_ops ?_
  refine s_pure (.slice none 0 0) (fun _ q => q) ?_
  refine s_pure (.bool false) (fun _ q => q) ?_
  refine s_nil ?_
  refine p_seqN ?_
  refine v_ret ?_
  refine p_seqR ?_
  refine p_ret [.slice none 0 0, .bool false] (.tuple #[.slice none 0 0, .bool false]) (fun _ q => q) rfl ?_
  have ho : srtOut (l.map Pk.p) = ([], false) := by first | exact so_no (by assumption) | exact so_spec (by assumption) hps (by assumption)
  exact ⟨(.slice none 0 0), [], by first | (rw [ho]; done) | rfl, DeepO.nil _ _, (congrArg (fun o => o.1) ho).symm, E2⟩
 ·
  have c4 := Classical.not_not.1 c4
  refine v_skip ?_
  refine p_seqN ?_
  refine v_seq ?_
  refine v_ops ?_
  refine s_pure (.slice none 0 0) (fun _ q => q) ?_
  refine s_nil ?_
  refine p_seqN ?_
  refine v_seq ?_
  refine v_seq ?_
  refine v_ops ?_
  refine s_pure v_l (fun _ q => q) ?_
  refine s_pure (.int .i64 (l.length : Int)) (fun _ q => s_l.lenVC q) ?_
  refine s_pure (.int .i64 0) (fun _ q => q) ?_
  refine s_nil ?_
  refine p_seqN ?_
  refine v_block ?_
  have hl40 : l.length ≤ 40 := by (have h4 := (by assumption : PksOk (l.map Pk.p)).1); simpa using h4
  refine v_loop3 (α := Nat) (β := List Pk) (γ := Value) (fun k ps o => [(4, o), (11, v_l), (12, .int .i64 (l.length : Int)), (13, .int .i64 (k : Int))]) (fun k ps o hh => Ext h hh ∧ DeepO hh o ps h.size ∧ k ≤ l.length ∧ ps.map Pk.p = srtL ((l.map Pk.p).take k)) (fun k ps o => l.length - k) 0 [] (.slice none 0 0) ⟨rfl, rfl, rfl, rfl⟩ ⟨E2, (DeepO.nil _ _), (by simp [srtL])⟩ ?_
  rintro k ps o R6 h5 ⟨Eh, s_o, ⟨hk, hps⟩⟩
  have zEh := Eh.size
  have f8 := s_l.ext Eh
  have in9 := fun p hp => (in_l p hp).ext Eh
  have lt_o := s_o.lt
  have fr_o := s_o.fr
  have hpl : ps.length ≤ 40 := by (have h1 := congrArg List.length hps); simp only [List.length_map, srt_len, List.length_take] at h1; omega
  refine v_seq ?_
  refine v_ops ?_
  refine s_pure (.bool (decide ((k : Int) < (l.length : Int)))) (fun _ q => q) ?_
  refine s_nil ?_
  refine p_seqN ?_
  refine v_seq ?_
  refine v_cond rfl (fun c10 => ?_) (fun c10 => ?_)
  ·
   refine v_skip ?_
   refine p_seqN ?_
   refine v_seq ?_
   refine v_block ?_
   refine v_seq ?_
   refine v_ops ?_
   have hk11 : k < l.length := (by first | omega | (simp; omega))
   obtain ⟨x12, hx12⟩ : ∃ x, l[k]? = some x := ⟨_, List.getElem?_eq_getElem hk11⟩
   refine s_pure (.pointer (some ⟨sblk v_l, soff v_l + k * 4, none⟩)) (fun _ q => f8.idx (k := k) rfl hk11 q) ?_
   have s13 := in9 x12 (List.mem_of_getElem? hx12)
   refine s_load (.agg #[.int .i64 x12.message, .int .i64 x12.part, .int .i64 x12.parts, x12.sv.v]) (fun _ q => f8.loadN hx12 rfl q) ?_
   refine s_new (fun h15 b14 hbb14 hzb14 eh15 bxb14 => ?_)
   have E16 := Eh.trans eh15
   have z17 := eh15.size
   have lbb14 := bxb14.lt
   refine s_stBx (.agg #[.int .i64 x12.message, .int .i64 x12.part, .int .i64 x12.parts, x12.sv.v]) [.int .i64 x12.message, .int .i64 x12.part, .int .i64 x12.parts, x12.sv.v] [.int .i64 x12.message, .int .i64 x12.part, .int .i64 x12.parts, x12.sv.v] bxb14 rfl rfl rfl rfl (by simp) (all_cons rfl (all_cons rfl (all_cons rfl (all_cons s13.one1 all_nil)))) rfl (fun h18 mh18 sh18 bxx19 => ?_)
   have E20 := E16.mod mh18 (fun b hb => by simp at hb; omega)
   refine s_nil ?_
   refine p_seqN ?_
   refine v_seq ?_
   refine v_ops ?_
   refine s_pure o (fun _ q => q) ?_
   refine s_pure (.int .i64 (ps.length : Int)) (fun _ q => s_o.row.lenVC q) ?_
   refine s_pure (.int .i64 (ps.length : Int)) (fun _ q => q) ?_
   refine s_nil ?_
   refine p_seqN ?_
   refine v_seq ?_
   refine v_block ?_
   have nk22 : b14 ∉ fpts o ps := (fun hc => by have := lt_o _ hc; omega)
   have f23 := ((s_o.ext eh15).mod mh18 (fun b hb hc => by simp at hc; have := lt_o b hb; omega))
   refine v_loop1 (α := Int) (fun j => [(4, o), (6, .pointer (some ⟨b14, 0, none⟩)), (7, .int .i64 j), (11, v_l), (12, .int .i64 (l.length : Int)), (13, .int .i64 (k : Int))]) (fun j hh => Ext h hh ∧ Bx hh b14 [.int .i64 x12.message, .int .i64 x12.part, .int .i64 x12.parts, x12.sv.v] 27 ∧ DeepO hh o ps h.size ∧ 0 ≤ j ∧ j ≤ (ps.length : Int) ∧ ∀ (i : Nat) y, j ≤ (i : Int) → ps[i]? = some y → ltK (pkKey x12) (pkKey y)) (fun j => j.toNat) (ps.length : Int) ⟨rfl, rfl, rfl, rfl, rfl, rfl⟩ ⟨E20, bxx19, (f23.mono (by omega)), (by exact ⟨by omega, by omega, fun i y hi hy => by (have := (List.getElem?_eq_some_iff.1 hy).1); omega⟩)⟩ ?_
   rintro j R24 h21 ⟨Eh, bxb14, s_o, ⟨hj0, hjl, hJ⟩⟩
   have zEh := Eh.size
   have f26 := s_l.ext Eh
   have in27 := fun p hp => (in_l p hp).ext Eh
   have ltk_o := s_o.lt
   have lbb14 := bxb14.lt
   have s28 := in27 x12 (List.mem_of_getElem? hx12)
   refine v_seq ?_
   refine v_seq ?_
   refine v_ops ?_
   refine s_pure (.int .i64 j) (fun _ q => q) ?_
   refine s_pure (.bool (decide (j > 0))) (fun _ q => q) ?_
   refine s_pure (.bool (decide (j > 0))) (fun _ q => q) ?_
   refine s_splitT rfl (fun c29 => ?_) (fun c29 => ?_)
   ·
    refine s_run rfl ?_
    refine s_pure o (fun _ q => q) ?_
    refine s_run rfl ?_
    refine s_pure (.int .i64 j) (fun _ q => q) ?_
    refine s_run rfl ?_
    refine s_pure (.int .i64 (j - 1)) (fun _ q => ArithVC.mk (by omega) q) ?_
    refine s_run rfl ?_
    have hk30 : ((j - 1)).toNat < ps.length := (by first | omega | (simp; omega))
    obtain ⟨x31, hx31⟩ : ∃ x, ps[((j - 1)).toNat]? = some x := ⟨_, List.getElem?_eq_getElem hk30⟩
    refine s_pure (.pointer (some ⟨sblk o, soff o + (((j - 1)).toNat) * 4, none⟩)) (fun _ q => s_o.row.idx (k := ((j - 1)).toNat) (by omega) hk30 q) ?_
    refine s_run rfl ?_
    refine s_pure (.pointer (some ⟨sblk o, soff o + (((j - 1)).toNat) * 4, none⟩)) (fun _ q => q) ?_
    refine s_run rfl ?_
    refine s_pure (.pointer (some ⟨b14, 0, none⟩)) (fun _ q => q) ?_
    refine s_run rfl ?_
    have s32 := s_o.insL x31 (List.mem_of_getElem? hx31)
    refine s_load (.int .i64 x31.message) (fun _ q => s_o.row.load hx31 (j := 0) rfl rfl q) ?_
    refine s_run rfl ?_
    refine s_load (.int .i64 x12.message) (fun _ q => bxb14.load rfl q) ?_
    refine s_run rfl ?_
    refine s_pure (.bool (decide (x31.message > x12.message))) (fun _ q => q) ?_
    refine s_run rfl ?_
    refine s_pure (.bool (decide (x31.message > x12.message))) (fun _ q => q) ?_
    refine s_splitT rfl (fun c33 => ?_) (fun c33 => ?_)
    ·
     refine s_pass rfl ?_
     refine s_pass rfl ?_
     refine s_pass rfl ?_
     refine s_pass rfl ?_
     refine s_pass rfl ?_
     refine s_pass rfl ?_
     refine s_pass rfl ?_
     refine s_pass rfl ?_
     refine s_pass rfl ?_
     refine s_pass rfl ?_
     refine s_splitU rfl ?_
     refine s_passU rfl ?_
     refine s_passU rfl ?_
     refine s_passU rfl ?_
     refine s_passU rfl ?_
     refine s_passU rfl ?_
     refine s_passU rfl ?_
     refine s_passU rfl ?_
     refine s_passU rfl ?_
     refine s_passU rfl ?_
     refine s_pass rfl ?_
     refine s_run rfl ?_
     refine s_pure (.bool true) (fun _ q => q) ?_
     refine s_pure (.bool true) (fun _ q => q) ?_
     refine s_nil ?_
     refine p_seqN ?_
     refine v_condY rfl rfl ?_
     refine v_skip ?_
     refine p_seqN ?_
     refine v_block ?_
     refine v_ops ?_
     refine s_pure (.int .i64 j) (fun _ q => q) ?_
     refine s_pure (.int .i64 (j - 1)) (fun _ q => ArithVC.mk (by omega) q) ?_
     refine s_pure (.int .i64 (j - 1)) (fun _ q => q) ?_
     refine s_nil ?_
     refine p_blkN ?_
     exact p_lpN ⟨(j - 1), ⟨rfl, rfl, rfl, rfl, rfl, rfl⟩, ⟨Eh, bxb14, (s_o.mono (by omega)), (by refine ⟨by omega, by omega, fun i y hi hy => ?_⟩; (by_cases hij : j ≤ (i : Int)); exact hJ i y hij hy; (have hii : i = (j - 1).toNat := by omega); subst hii; (obtain rfl := Option.some.inj (hy.symm.trans (by assumption : ps[(j - 1).toNat]? = some x31))); (show _ < _ ∨ (_ = _ ∧ _ < _)); simp only; omega)⟩, by omega⟩
    ·
     refine s_run rfl ?_
     refine s_pure o (fun _ q => q) ?_
     refine s_run rfl ?_
     refine s_pure (.int .i64 j) (fun _ q => q) ?_
     refine s_run rfl ?_
     refine s_pure (.int .i64 (j - 1)) (fun _ q => ArithVC.mk (by omega) q) ?_
     refine s_run rfl ?_
     refine s_pure (.pointer (some ⟨sblk o, soff o + (((j - 1)).toNat) * 4, none⟩)) (fun _ q => s_o.row.idx (k := ((j - 1)).toNat) (by omega) hk30 q) ?_
     refine s_run rfl ?_
     refine s_pure (.pointer (some ⟨sblk o, soff o + (((j - 1)).toNat) * 4, none⟩)) (fun _ q => q) ?_
     refine s_run rfl ?_
     refine s_pure (.pointer (some ⟨b14, 0, none⟩)) (fun _ q => q) ?_
     refine s_run rfl ?_
     refine s_load (.int .i64 x31.message) (fun _ q => s_o.row.load hx31 (j := 0) rfl rfl q) ?_
     refine s_run rfl ?_
     refine s_load (.int .i64 x12.message) (fun _ q => bxb14.load rfl q) ?_
     refine s_run rfl ?_
     refine s_pure (.bool (x31.message == x12.message)) (fun _ q => q) ?_
     refine s_run rfl ?_
     refine s_pure (.bool (x31.message == x12.message)) (fun _ q => q) ?_
     refine s_splitT rfl (fun c34 => ?_) (fun c34 => ?_)
     ·
      refine s_run rfl ?_
      refine s_pure o (fun _ q => q) ?_
      refine s_run rfl ?_
      refine s_pure (.int .i64 j) (fun _ q => q) ?_
      refine s_run rfl ?_
      refine s_pure (.int .i64 (j - 1)) (fun _ q => ArithVC.mk (by omega) q) ?_
      refine s_run rfl ?_
      refine s_pure (.pointer (some ⟨sblk o, soff o + (((j - 1)).toNat) * 4, none⟩)) (fun _ q => s_o.row.idx (k := ((j - 1)).toNat) (by omega) hk30 q) ?_
      refine s_run rfl ?_
      refine s_pure (.pointer (some ⟨sblk o, soff o + (((j - 1)).toNat) * 4 + 1, none⟩)) (fun _ q => q) ?_
      refine s_run rfl ?_
      refine s_pure (.pointer (some ⟨b14, 1, none⟩)) (fun _ q => q) ?_
      refine s_run rfl ?_
      refine s_load (.int .i64 x31.part) (fun _ q => s_o.row.load hx31 (j := 1) rfl rfl q) ?_
      refine s_run rfl ?_
      refine s_load (.int .i64 x12.part) (fun _ q => bxb14.load rfl q) ?_
      refine s_run rfl ?_
      refine s_pure (.bool (decide (x31.part > x12.part))) (fun _ q => q) ?_
      refine s_run rfl ?_
      refine s_pure (.bool (decide (x31.part > x12.part))) (fun _ q => q) ?_
      refine s_run rfl ?_
      refine s_pure (.bool (decide (x31.part > x12.part))) (fun _ q => q) ?_
      refine s_pure (.bool (decide (x31.part > x12.part))) (fun _ q => q) ?_
      refine s_nil ?_
      refine p_seqN ?_
      refine v_cond rfl (fun c35 => ?_) (fun c35 => ?_)
      ·
       refine v_skip ?_
       refine p_seqN ?_
       refine v_block ?_
       refine v_ops ?_
       refine s_pure (.int .i64 j) (fun _ q => q) ?_
       refine s_pure (.int .i64 (j - 1)) (fun _ q => ArithVC.mk (by omega) q) ?_
       refine s_pure (.int .i64 (j - 1)) (fun _ q => q) ?_
       refine s_nil ?_
       refine p_blkN ?_
       exact p_lpN ⟨(j - 1), ⟨rfl, rfl, rfl, rfl, rfl, rfl⟩, ⟨Eh, bxb14, (s_o.mono (by omega)), (by refine ⟨by omega, by omega, fun i y hi hy => ?_⟩; (by_cases hij : j ≤ (i : Int)); exact hJ i y hij hy; (have hii : i = (j - 1).toNat := by omega); subst hii; (obtain rfl := Option.some.inj (hy.symm.trans (by assumption : ps[(j - 1).toNat]? = some x31))); (show _ < _ ∨ (_ = _ ∧ _ < _)); simp only; omega)⟩, by omega⟩
      ·
       refine v_exit ?_
       refine p_seqX ?_
       refine p_lpX ?_
       refine p_blkX ?_
       refine p_seqN ?_
       refine v_draw (DrawVC.hold ([b14]) ?_)
       refine d_pureT o (fun _ q => q) ?_
       refine d_pureT (.int .i64 j) (fun _ q => q) ?_
       obtain ⟨r36, hqr36, s_r36, bk_r36⟩ := s_o.row.toSl.slc (l := 0) (m := (j).toNat) (by first | omega | (simp; omega)) (by first | omega | (simp; omega))
       simp only [List.drop_zero, List.take_length] at s_r36
       have lt_r36 := s_r36.lt
       refine d_pureT r36 (fun K q => hqr36 _ rfl none (some (.int .i64 j)) rfl ⟨_, _, rfl, (by omega)⟩ K q) ?_
       refine d_pureT o (fun _ q => q) ?_
       refine d_pureT (.int .i64 j) (fun _ q => q) ?_
       obtain ⟨r37, hqr37, s_r37, bk_r37⟩ := s_o.row.toSl.slc (l := (j).toNat) (m := ps.length) (by first | omega | (simp; omega)) (by first | omega | (simp; omega))
       simp only [List.drop_zero, List.take_length] at s_r37
       have lt_r37 := s_r37.lt
       refine d_pureT r37 (fun K q => hqr37 _ rfl (some (.int .i64 j)) none ⟨_, _, rfl, (by omega)⟩ rfl K q) ?_
       refine d_loadT (.agg #[.int .i64 x12.message, .int .i64 x12.part, .int .i64 x12.parts, x12.sv.v]) (fun _ q => bxb14.takeA (by simp) rfl q) ?_
       refine d_eff ?_
       refine s_row (α := Pk) [] (fun _ q => seg_nil q) rfl (by simp [maxLen]) (fun r38 h39 eh39 zh39 s_r38 fr_r38 => ?_)
       have E40 := Eh.trans eh39
       have z41 := eh39.size
       have G42 := eh39
       have lt_r38 := s_r38.lt
       refine s_nil ⟨fun _ x hx => G42.blk x (by simp at hx; omega), ?_⟩
       refine d_eff ?_
       have f43 := (s_r36.ext eh39)
       refine s_app s_r38 f43 rfl rfl rfl (by simp [maxLen]; omega) (by simp; omega) (fun r44 h45 mh45 zh45 s_r44 ab_r44 => ?_)
       have E46 := E40.mod mh45 (fun b hb => by have := fr_r38 b hb; omega)
       have G47 := G42.mod mh45 (fun b hb => by have := fr_r38 b hb; omega)
       have fr_r44 := fr_r38.app ab_r44 (by omega)
       have lt_r44 := s_r44.lt
       refine s_nil ⟨fun _ x hx => G47.blk x (by simp at hx; omega), ?_⟩
       refine d_eff ?_
       have f48 := ((s28.ext eh39).mod mh45 (fun b hb hc => by have := (inlt_l x12 (List.mem_of_getElem? hx12)) b hb; have := fr_r38 b hc; omega))
       refine s_call [.agg #[.int .i64 x12.message, .int .i64 x12.part, .int .i64 x12.parts, x12.sv.v]] rfl (spec_pkOwn_ok (Pk.p x12) x12.sv.v _ f48 (by (have h3 := (by assumption : PksOk (l.map Pk.p)).2 _ (List.mem_map_of_mem (List.mem_of_getElem? (by assumption : l[k]? = some _)))); (have h4 := h3.2.2.2.1); simp only at h4 ⊢; omega)) ?_
       rintro _ h50 ⟨r49, rfl, s_r49, fr_r49, eh50⟩
       have E51 := E46.trans eh50
       have z52 := eh50.size
       have G53 := G47.trans eh50
       have lt_r49 := s_r49.lt
       refine s_nil ⟨fun hl => (by cases hl), ?_⟩
       refine d_eff ?_
       obtain ⟨sv54, rfl⟩ := s_r49.sv
       refine s_row (α := Pk) [(⟨(Pk.p x12).message, (Pk.p x12).part, (Pk.p x12).parts, sv54, (Pk.p x12).signals⟩ : Pk)] (fun _ q => seg_agg rfl rfl (seg_nil q)) rfl (by simp [maxLen]) (fun r55 h56 eh56 zh56 s_r55 fr_r55 => ?_)
       have E57 := E51.trans eh56
       have z58 := eh56.size
       have G59 := G53.trans eh56
       have lt_r55 := s_r55.lt
       refine s_nil ⟨fun hl => (by cases hl), ?_⟩
       refine d_eff ?_
       have f60 := ((s_r44.ext eh50).ext eh56)
       refine s_app f60 s_r55 rfl rfl rfl (by simp [maxLen]; omega) (by simp; omega) (fun r61 h62 mh62 zh62 s_r61 ab_r61 => ?_)
       have E63 := E57.mod mh62 (fun b hb => by have := fr_r44 b hb; omega)
       have fr_r61 := fr_r44.app ab_r61 (by omega)
       have np64 : ∀ b ∈ blks sv54.v, b ∉ blks r61 := fun b hb hc => (ab_r61 _ hc).elim (((fun b hb hc => by have := fr_r49 b hb; have := lt_r44 b hc; omega) : ∀ b ∈ blks sv54.v, b ∉ blks r44) b hb) (fun hc => by have := lt_r49 b hb; omega)
       have np65 : ∀ b ∈ blks r55, b ∉ blks r61 := fun b hb hc => (ab_r61 _ hc).elim (((fun b hb hc => by have := fr_r55 b hb; have := lt_r44 b hc; omega) : ∀ b ∈ blks r55, b ∉ blks r44) b hb) (fun hc => by have := lt_r55 b hb; omega)
       have lt_r61 := s_r61.lt
       refine s_nil ⟨fun hl => (by cases hl), ?_⟩
       refine d_eff ?_
       have f66 := (((((s_r37.ext eh39).mod mh45 (fun b hb hc => by have := (fun b hb => ltk_o b (mem_fpts.2 (.inl (bk_r37 b hb)))) b hb; have := fr_r38 b hc; omega)).ext eh50).ext eh56).mod mh62 (fun b hb hc => by have := (fun b hb => ltk_o b (mem_fpts.2 (.inl (bk_r37 b hb)))) b hb; have := fr_r44 b hc; omega))
       refine s_app s_r61 f66 rfl rfl rfl (by simp [maxLen]; omega) (by simp; omega) (fun r67 h68 mh68 zh68 s_r67 ab_r67 => ?_)
       have E69 := E63.mod mh68 (fun b hb => by have := fr_r61 b hb; omega)
       have fr_r67 := fr_r61.app ab_r67 (by omega)
       have np70 : ∀ b ∈ blks sv54.v, b ∉ blks r67 := fun b hb hc => (ab_r67 _ hc).elim ((np64 : ∀ b ∈ blks sv54.v, b ∉ blks r61) b hb) (fun hc => by have := lt_r49 b hb; omega)
       have np71 : ∀ b ∈ blks sv54.v, b ∉ blks r67 := fun b hb hc => (ab_r67 _ hc).elim ((np64 : ∀ b ∈ blks sv54.v, b ∉ blks r61) b hb) (fun hc => by have := lt_r49 b hb; omega)
       have np72 : ∀ b ∈ blks r55, b ∉ blks r67 := fun b hb hc => (ab_r67 _ hc).elim ((np65 : ∀ b ∈ blks r55, b ∉ blks r61) b hb) (fun hc => by have := lt_r55 b hb; omega)
       have np73 : ∀ b ∈ blks r55, b ∉ blks r67 := fun b hb hc => (ab_r67 _ hc).elim ((np65 : ∀ b ∈ blks r55, b ∉ blks r61) b hb) (fun hc => by have := lt_r55 b hb; omega)
       have lt_r67 := s_r67.lt
       have f74 := ((((((s_o.ext eh39).mod mh45 (fun b hb hc => by have := ltk_o b hb; have := lt_o b hb; have := fr_r38 b hc; omega)).ext eh50).ext eh56).mod mh62 (fun b hb hc => by have := ltk_o b hb; have := lt_o b hb; have := fr_r44 b hc; omega)).mod mh68 (fun b hb hc => by have := ltk_o b hb; have := lt_o b hb; have := fr_r61 b hc; omega))
       have f75 := (((s_r49.ext eh56).mod mh62 (fun b hb hc => by have := fr_r49 b hb; have := lt_r44 b hc; omega)).mod mh68 np64)
       have D76 := DeepO.mid (k := ((j).toNat)) (e := (⟨(Pk.p x12).message, (Pk.p x12).part, (Pk.p x12).parts, sv54, (Pk.p x12).signals⟩ : Pk)) f74 f75 (fr_r49.mono (by omega)) (fun b hb hc => by have := fr_r49 b hb; have := ltk_o b hc; have := lt_o b hc; omega) (sl_eq s_r67 (by simp)) (fr_r67.mono (by omega)) (fun b hb hc => by have := ltk_o b hb; have := lt_o b hb; have := fr_r67 b hc; omega) np71
       have lt_r67d := D76.lt
       have fr_r67d := D76.fr
       refine s_nil ⟨fun hl => (by cases hl), ?_⟩
       refine d_pureT r67 (fun _ q => q) ?_
       refine d_done ?_
       refine p_blkN ?_
       refine p_seqN ?_
       refine v_ops ?_
       refine s_pure (.int .i64 ((k : Int) + 1)) (fun _ q => ArithVC.mk (by omega) q) ?_
       refine s_pure (.int .i64 ((k : Int) + 1)) (fun _ q => q) ?_
       refine s_nil ?_
       exact p_lpN ⟨k + 1, (ps.take ((j).toNat) ++ [(⟨(Pk.p x12).message, (Pk.p x12).part, (Pk.p x12).parts, sv54, (Pk.p x12).signals⟩ : Pk)] ++ ps.drop ((j).toNat)), r67, ⟨rfl, rfl, rfl, rfl⟩, ⟨E69, (D76.mono (by omega)), (by exact ⟨by omega, ins_step (e := (⟨(Pk.p x12).message, (Pk.p x12).part, (Pk.p x12).parts, sv54, (Pk.p x12).signals⟩ : Pk)) hps (by assumption : l[k]? = some x12) rfl hj0 hjl hJ (fun y hy hz => by first | omega | (have hzz := (by assumption : ps[(j - 1).toNat]? = some x31)); (obtain rfl := Option.some.inj (hz.symm.trans hzz)); (show ¬ (_ < _ ∨ (_ = _ ∧ _ < _))); simp only; omega)⟩)⟩, by omega⟩
     ·
      refine s_pass rfl ?_
      refine s_pass rfl ?_
      refine s_pass rfl ?_
      refine s_pass rfl ?_
      refine s_pass rfl ?_
      refine s_pass rfl ?_
      refine s_pass rfl ?_
      refine s_pass rfl ?_
      refine s_pass rfl ?_
      refine s_run rfl ?_
      refine s_pure (.bool false) (fun _ q => q) ?_
      refine s_run rfl ?_
      refine s_pure (.bool false) (fun _ q => q) ?_
      refine s_pure (.bool false) (fun _ q => q) ?_
      refine s_nil ?_
      refine p_seqN ?_
      refine v_condN rfl (by simp) ?_
      refine v_exit ?_
      refine p_seqX ?_
      refine p_lpX ?_
      refine p_blkX ?_
      refine p_seqN ?_
      refine v_draw (DrawVC.hold ([b14]) ?_)
      refine d_pureT o (fun _ q => q) ?_
      refine d_pureT (.int .i64 j) (fun _ q => q) ?_
      obtain ⟨r77, hqr77, s_r77, bk_r77⟩ := s_o.row.toSl.slc (l := 0) (m := (j).toNat) (by first | omega | (simp; omega)) (by first | omega | (simp; omega))
      simp only [List.drop_zero, List.take_length] at s_r77
      have lt_r77 := s_r77.lt
      refine d_pureT r77 (fun K q => hqr77 _ rfl none (some (.int .i64 j)) rfl ⟨_, _, rfl, (by omega)⟩ K q) ?_
      refine d_pureT o (fun _ q => q) ?_
      refine d_pureT (.int .i64 j) (fun _ q => q) ?_
      obtain ⟨r78, hqr78, s_r78, bk_r78⟩ := s_o.row.toSl.slc (l := (j).toNat) (m := ps.length) (by first | omega | (simp; omega)) (by first | omega | (simp; omega))
      simp only [List.drop_zero, List.take_length] at s_r78
      have lt_r78 := s_r78.lt
      refine d_pureT r78 (fun K q => hqr78 _ rfl (some (.int .i64 j)) none ⟨_, _, rfl, (by omega)⟩ rfl K q) ?_
      refine d_loadT (.agg #[.int .i64 x12.message, .int .i64 x12.part, .int .i64 x12.parts, x12.sv.v]) (fun _ q => bxb14.takeA (by simp) rfl q) ?_
      refine d_eff ?_
      refine s_row (α := Pk) [] (fun _ q => seg_nil q) rfl (by simp [maxLen]) (fun r79 h80 eh80 zh80 s_r79 fr_r79 => ?_)
      have E81 := Eh.trans eh80
      have z82 := eh80.size
      have G83 := eh80
      have lt_r79 := s_r79.lt
      refine s_nil ⟨fun _ x hx => G83.blk x (by simp at hx; omega), ?_⟩
      refine d_eff ?_
      have f84 := (s_r77.ext eh80)
      refine s_app s_r79 f84 rfl rfl rfl (by simp [maxLen]; omega) (by simp; omega) (fun r85 h86 mh86 zh86 s_r85 ab_r85 => ?_)
      have E87 := E81.mod mh86 (fun b hb => by have := fr_r79 b hb; omega)
      have G88 := G83.mod mh86 (fun b hb => by have := fr_r79 b hb; omega)
      have fr_r85 := fr_r79.app ab_r85 (by omega)
      have lt_r85 := s_r85.lt
      refine s_nil ⟨fun _ x hx => G88.blk x (by simp at hx; omega), ?_⟩
      refine d_eff ?_
      have f89 := ((s28.ext eh80).mod mh86 (fun b hb hc => by have := (inlt_l x12 (List.mem_of_getElem? hx12)) b hb; have := fr_r79 b hc; omega))
      refine s_call [.agg #[.int .i64 x12.message, .int .i64 x12.part, .int .i64 x12.parts, x12.sv.v]] rfl (spec_pkOwn_ok (Pk.p x12) x12.sv.v _ f89 (by (have h3 := (by assumption : PksOk (l.map Pk.p)).2 _ (List.mem_map_of_mem (List.mem_of_getElem? (by assumption : l[k]? = some _)))); (have h4 := h3.2.2.2.1); simp only at h4 ⊢; omega)) ?_
      rintro _ h91 ⟨r90, rfl, s_r90, fr_r90, eh91⟩
      have E92 := E87.trans eh91
      have z93 := eh91.size
      have G94 := G88.trans eh91
      have lt_r90 := s_r90.lt
      refine s_nil ⟨fun hl => (by cases hl), ?_⟩
      refine d_eff ?_
      obtain ⟨sv95, rfl⟩ := s_r90.sv
      refine s_row (α := Pk) [(⟨(Pk.p x12).message, (Pk.p x12).part, (Pk.p x12).parts, sv95, (Pk.p x12).signals⟩ : Pk)] (fun _ q => seg_agg rfl rfl (seg_nil q)) rfl (by simp [maxLen]) (fun r96 h97 eh97 zh97 s_r96 fr_r96 => ?_)
      have E98 := E92.trans eh97
      have z99 := eh97.size
      have G100 := G94.trans eh97
      have lt_r96 := s_r96.lt
      refine s_nil ⟨fun hl => (by cases hl), ?_⟩
      refine d_eff ?_
      have f101 := ((s_r85.ext eh91).ext eh97)
      refine s_app f101 s_r96 rfl rfl rfl (by simp [maxLen]; omega) (by simp; omega) (fun r102 h103 mh103 zh103 s_r102 ab_r102 => ?_)
      have E104 := E98.mod mh103 (fun b hb => by have := fr_r85 b hb; omega)
      have fr_r102 := fr_r85.app ab_r102 (by omega)
      have np105 : ∀ b ∈ blks sv95.v, b ∉ blks r102 := fun b hb hc => (ab_r102 _ hc).elim (((fun b hb hc => by have := fr_r90 b hb; have := lt_r85 b hc; omega) : ∀ b ∈ blks sv95.v, b ∉ blks r85) b hb) (fun hc => by have := lt_r90 b hb; omega)
      have np106 : ∀ b ∈ blks r96, b ∉ blks r102 := fun b hb hc => (ab_r102 _ hc).elim (((fun b hb hc => by have := fr_r96 b hb; have := lt_r85 b hc; omega) : ∀ b ∈ blks r96, b ∉ blks r85) b hb) (fun hc => by have := lt_r96 b hb; omega)
      have lt_r102 := s_r102.lt
      refine s_nil ⟨fun hl => (by cases hl), ?_⟩
      refine d_eff ?_
      have f107 := (((((s_r78.ext eh80).mod mh86 (fun b hb hc => by have := (fun b hb => ltk_o b (mem_fpts.2 (.inl (bk_r78 b hb)))) b hb; have := fr_r79 b hc; omega)).ext eh91).ext eh97).mod mh103 (fun b hb hc => by have := (fun b hb => ltk_o b (mem_fpts.2 (.inl (bk_r78 b hb)))) b hb; have := fr_r85 b hc; omega))
      refine s_app s_r102 f107 rfl rfl rfl (by simp [maxLen]; omega) (by simp; omega) (fun r108 h109 mh109 zh109 s_r108 ab_r108 => ?_)
      have E110 := E104.mod mh109 (fun b hb => by have := fr_r102 b hb; omega)
      have fr_r108 := fr_r102.app ab_r108 (by omega)
      have np111 : ∀ b ∈ blks sv95.v, b ∉ blks r108 := fun b hb hc => (ab_r108 _ hc).elim ((np105 : ∀ b ∈ blks sv95.v, b ∉ blks r102) b hb) (fun hc => by have := lt_r90 b hb; omega)
      have np112 : ∀ b ∈ blks sv95.v, b ∉ blks r108 := fun b hb hc => (ab_r108 _ hc).elim ((np105 : ∀ b ∈ blks sv95.v, b ∉ blks r102) b hb) (fun hc => by have := lt_r90 b hb; omega)
      have np113 : ∀ b ∈ blks r96, b ∉ blks r108 := fun b hb hc => (ab_r108 _ hc).elim ((np106 : ∀ b ∈ blks r96, b ∉ blks r102) b hb) (fun hc => by have := lt_r96 b hb; omega)
      have np114 : ∀ b ∈ blks r96, b ∉ blks r108 := fun b hb hc => (ab_r108 _ hc).elim ((np106 : ∀ b ∈ blks r96, b ∉ blks r102) b hb) (fun hc => by have := lt_r96 b hb; omega)
      have lt_r108 := s_r108.lt
      have f115 := ((((((s_o.ext eh80).mod mh86 (fun b hb hc => by have := ltk_o b hb; have := lt_o b hb; have := fr_r79 b hc; omega)).ext eh91).ext eh97).mod mh103 (fun b hb hc => by have := ltk_o b hb; have := lt_o b hb; have := fr_r85 b hc; omega)).mod mh109 (fun b hb hc => by have := ltk_o b hb; have := lt_o b hb; have := fr_r102 b hc; omega))
      have f116 := (((s_r90.ext eh97).mod mh103 (fun b hb hc => by have := fr_r90 b hb; have := lt_r85 b hc; omega)).mod mh109 np105)
      have D117 := DeepO.mid (k := ((j).toNat)) (e := (⟨(Pk.p x12).message, (Pk.p x12).part, (Pk.p x12).parts, sv95, (Pk.p x12).signals⟩ : Pk)) f115 f116 (fr_r90.mono (by omega)) (fun b hb hc => by have := fr_r90 b hb; have := ltk_o b hc; have := lt_o b hc; omega) (sl_eq s_r108 (by simp)) (fr_r108.mono (by omega)) (fun b hb hc => by have := ltk_o b hb; have := lt_o b hb; have := fr_r108 b hc; omega) np112
      have lt_r108d := D117.lt
      have fr_r108d := D117.fr
      refine s_nil ⟨fun hl => (by cases hl), ?_⟩
      refine d_pureT r108 (fun _ q => q) ?_
      refine d_done ?_
      refine p_blkN ?_
      refine p_seqN ?_
      refine v_ops ?_
      refine s_pure (.int .i64 ((k : Int) + 1)) (fun _ q => ArithVC.mk (by omega) q) ?_
      refine s_pure (.int .i64 ((k : Int) + 1)) (fun _ q => q) ?_
      refine s_nil ?_
      exact p_lpN ⟨k + 1, (ps.take ((j).toNat) ++ [(⟨(Pk.p x12).message, (Pk.p x12).part, (Pk.p x12).parts, sv95, (Pk.p x12).signals⟩ : Pk)] ++ ps.drop ((j).toNat)), r108, ⟨rfl, rfl, rfl, rfl⟩, ⟨E110, (D117.mono (by omega)), (by exact ⟨by omega, ins_step (e := (⟨(Pk.p x12).message, (Pk.p x12).part, (Pk.p x12).parts, sv95, (Pk.p x12).signals⟩ : Pk)) hps (by assumption : l[k]? = some x12) rfl hj0 hjl hJ (fun y hy hz => by first | omega | (have hzz := (by assumption : ps[(j - 1).toNat]? = some x31)); (obtain rfl := Option.some.inj (hz.symm.trans hzz)); (show ¬ (_ < _ ∨ (_ = _ ∧ _ < _))); simp only; omega)⟩)⟩, by omega⟩
   ·
    refine s_pass rfl ?_
    refine s_pass rfl ?_
    refine s_pass rfl ?_
    refine s_pass rfl ?_
    refine s_pass rfl ?_
    refine s_pass rfl ?_
    refine s_pass rfl ?_
    refine s_pass rfl ?_
    refine s_pass rfl ?_
    refine s_pass rfl ?_
    refine s_splitU rfl ?_
    refine s_passU rfl ?_
    refine s_passU rfl ?_
    refine s_passU rfl ?_
    refine s_passU rfl ?_
    refine s_passU rfl ?_
    refine s_passU rfl ?_
    refine s_passU rfl ?_
    refine s_passU rfl ?_
    refine s_passU rfl ?_
    refine s_passU rfl ?_
    refine s_splitU rfl ?_
    refine s_passU rfl ?_
    refine s_passU rfl ?_
    refine s_passU rfl ?_
    refine s_passU rfl ?_
    refine s_passU rfl ?_
    refine s_passU rfl ?_
    refine s_passU rfl ?_
    refine s_passU rfl ?_
    refine s_passU rfl ?_
    refine s_passU rfl ?_
    refine s_pass rfl ?_
    refine s_pure (.bool false) (fun _ q => q) ?_
    refine s_nil ?_
    refine p_seqN ?_
    refine v_condN rfl (by simp) ?_
    refine v_exit ?_
    refine p_seqX ?_
    refine p_lpX ?_
    refine p_blkX ?_
    refine p_seqN ?_
    refine v_draw (DrawVC.hold ([b14]) ?_)
    refine d_pureT o (fun _ q => q) ?_
    refine d_pureT (.int .i64 j) (fun _ q => q) ?_
    obtain ⟨r118, hqr118, s_r118, bk_r118⟩ := s_o.row.toSl.slc (l := 0) (m := (j).toNat) (by first | omega | (simp; omega)) (by first | omega | (simp; omega))
    simp only [List.drop_zero, List.take_length] at s_r118
    have lt_r118 := s_r118.lt
    refine d_pureT r118 (fun K q => hqr118 _ rfl none (some (.int .i64 j)) rfl ⟨_, _, rfl, (by omega)⟩ K q) ?_
    refine d_pureT o (fun _ q => q) ?_
    refine d_pureT (.int .i64 j) (fun _ q => q) ?_
    obtain ⟨r119, hqr119, s_r119, bk_r119⟩ := s_o.row.toSl.slc (l := (j).toNat) (m := ps.length) (by first | omega | (simp; omega)) (by first | omega | (simp; omega))
    simp only [List.drop_zero, List.take_length] at s_r119
    have lt_r119 := s_r119.lt
    refine d_pureT r119 (fun K q => hqr119 _ rfl (some (.int .i64 j)) none ⟨_, _, rfl, (by omega)⟩ rfl K q) ?_
    refine d_loadT (.agg #[.int .i64 x12.message, .int .i64 x12.part, .int .i64 x12.parts, x12.sv.v]) (fun _ q => bxb14.takeA (by simp) rfl q) ?_
    refine d_eff ?_
    refine s_row (α := Pk) [] (fun _ q => seg_nil q) rfl (by simp [maxLen]) (fun r120 h121 eh121 zh121 s_r120 fr_r120 => ?_)
    have E122 := Eh.trans eh121
    have z123 := eh121.size
    have G124 := eh121
    have lt_r120 := s_r120.lt
    refine s_nil ⟨fun _ x hx => G124.blk x (by simp at hx; omega), ?_⟩
    refine d_eff ?_
    have f125 := (s_r118.ext eh121)
    refine s_app s_r120 f125 rfl rfl rfl (by simp [maxLen]; omega) (by simp; omega) (fun r126 h127 mh127 zh127 s_r126 ab_r126 => ?_)
    have E128 := E122.mod mh127 (fun b hb => by have := fr_r120 b hb; omega)
    have G129 := G124.mod mh127 (fun b hb => by have := fr_r120 b hb; omega)
    have fr_r126 := fr_r120.app ab_r126 (by omega)
    have lt_r126 := s_r126.lt
    refine s_nil ⟨fun _ x hx => G129.blk x (by simp at hx; omega), ?_⟩
    refine d_eff ?_
    have f130 := ((s28.ext eh121).mod mh127 (fun b hb hc => by have := (inlt_l x12 (List.mem_of_getElem? hx12)) b hb; have := fr_r120 b hc; omega))
    refine s_call [.agg #[.int .i64 x12.message, .int .i64 x12.part, .int .i64 x12.parts, x12.sv.v]] rfl (spec_pkOwn_ok (Pk.p x12) x12.sv.v _ f130 (by (have h3 := (by assumption : PksOk (l.map Pk.p)).2 _ (List.mem_map_of_mem (List.mem_of_getElem? (by assumption : l[k]? = some _)))); (have h4 := h3.2.2.2.1); simp only at h4 ⊢; omega)) ?_
    rintro _ h132 ⟨r131, rfl, s_r131, fr_r131, eh132⟩
    have E133 := E128.trans eh132
    have z134 := eh132.size
    have G135 := G129.trans eh132
    have lt_r131 := s_r131.lt
    refine s_nil ⟨fun hl => (by cases hl), ?_⟩
    refine d_eff ?_
    obtain ⟨sv136, rfl⟩ := s_r131.sv
    refine s_row (α := Pk) [(⟨(Pk.p x12).message, (Pk.p x12).part, (Pk.p x12).parts, sv136, (Pk.p x12).signals⟩ : Pk)] (fun _ q => seg_agg rfl rfl (seg_nil q)) rfl (by simp [maxLen]) (fun r137 h138 eh138 zh138 s_r137 fr_r137 => ?_)
    have E139 := E133.trans eh138
    have z140 := eh138.size
    have G141 := G135.trans eh138
    have lt_r137 := s_r137.lt
    refine s_nil ⟨fun hl => (by cases hl), ?_⟩
    refine d_eff ?_
    have f142 := ((s_r126.ext eh132).ext eh138)
    refine s_app f142 s_r137 rfl rfl rfl (by simp [maxLen]; omega) (by simp; omega) (fun r143 h144 mh144 zh144 s_r143 ab_r143 => ?_)
    have E145 := E139.mod mh144 (fun b hb => by have := fr_r126 b hb; omega)
    have fr_r143 := fr_r126.app ab_r143 (by omega)
    have np146 : ∀ b ∈ blks sv136.v, b ∉ blks r143 := fun b hb hc => (ab_r143 _ hc).elim (((fun b hb hc => by have := fr_r131 b hb; have := lt_r126 b hc; omega) : ∀ b ∈ blks sv136.v, b ∉ blks r126) b hb) (fun hc => by have := lt_r131 b hb; omega)
    have np147 : ∀ b ∈ blks r137, b ∉ blks r143 := fun b hb hc => (ab_r143 _ hc).elim (((fun b hb hc => by have := fr_r137 b hb; have := lt_r126 b hc; omega) : ∀ b ∈ blks r137, b ∉ blks r126) b hb) (fun hc => by have := lt_r137 b hb; omega)
    have lt_r143 := s_r143.lt
    refine s_nil ⟨fun hl => (by cases hl), ?_⟩
    refine d_eff ?_
    have f148 := (((((s_r119.ext eh121).mod mh127 (fun b hb hc => by have := (fun b hb => ltk_o b (mem_fpts.2 (.inl (bk_r119 b hb)))) b hb; have := fr_r120 b hc; omega)).ext eh132).ext eh138).mod mh144 (fun b hb hc => by have := (fun b hb => ltk_o b (mem_fpts.2 (.inl (bk_r119 b hb)))) b hb; have := fr_r126 b hc; omega))
    refine s_app s_r143 f148 rfl rfl rfl (by simp [maxLen]; omega) (by simp; omega) (fun r149 h150 mh150 zh150 s_r149 ab_r149 => ?_)
    have E151 := E145.mod mh150 (fun b hb => by have := fr_r143 b hb; omega)
    have fr_r149 := fr_r143.app ab_r149 (by omega)
    have np152 : ∀ b ∈ blks sv136.v, b ∉ blks r149 := fun b hb hc => (ab_r149 _ hc).elim ((np146 : ∀ b ∈ blks sv136.v, b ∉ blks r143) b hb) (fun hc => by have := lt_r131 b hb; omega)
    have np153 : ∀ b ∈ blks sv136.v, b ∉ blks r149 := fun b hb hc => (ab_r149 _ hc).elim ((np146 : ∀ b ∈ blks sv136.v, b ∉ blks r143) b hb) (fun hc => by have := lt_r131 b hb; omega)
    have np154 : ∀ b ∈ blks r137, b ∉ blks r149 := fun b hb hc => (ab_r149 _ hc).elim ((np147 : ∀ b ∈ blks r137, b ∉ blks r143) b hb) (fun hc => by have := lt_r137 b hb; omega)
    have np155 : ∀ b ∈ blks r137, b ∉ blks r149 := fun b hb hc => (ab_r149 _ hc).elim ((np147 : ∀ b ∈ blks r137, b ∉ blks r143) b hb) (fun hc => by have := lt_r137 b hb; omega)
    have lt_r149 := s_r149.lt
    have f156 := ((((((s_o.ext eh121).mod mh127 (fun b hb hc => by have := ltk_o b hb; have := lt_o b hb; have := fr_r120 b hc; omega)).ext eh132).ext eh138).mod mh144 (fun b hb hc => by have := ltk_o b hb; have := lt_o b hb; have := fr_r126 b hc; omega)).mod mh150 (fun b hb hc => by have := ltk_o b hb; have := lt_o b hb; have := fr_r143 b hc; omega))
    have f157 := (((s_r131.ext eh138).mod mh144 (fun b hb hc => by have := fr_r131 b hb; have := lt_r126 b hc; omega)).mod mh150 np146)
    have D158 := DeepO.mid (k := ((j).toNat)) (e := (⟨(Pk.p x12).message, (Pk.p x12).part, (Pk.p x12).parts, sv136, (Pk.p x12).signals⟩ : Pk)) f156 f157 (fr_r131.mono (by omega)) (fun b hb hc => by have := fr_r131 b hb; have := ltk_o b hc; have := lt_o b hc; omega) (sl_eq s_r149 (by simp)) (fr_r149.mono (by omega)) (fun b hb hc => by have := ltk_o b hb; have := lt_o b hb; have := fr_r149 b hc; omega) np153
    have lt_r149d := D158.lt
    have fr_r149d := D158.fr
    refine s_nil ⟨fun hl => (by cases hl), ?_⟩
    refine d_pureT r149 (fun _ q => q) ?_
    refine d_done ?_
    refine p_blkN ?_
    refine p_seqN ?_
    refine v_ops ?_
    refine s_pure (.int .i64 ((k : Int) + 1)) (fun _ q => ArithVC.mk (by omega) q) ?_
    refine s_pure (.int .i64 ((k : Int) + 1)) (fun _ q => q) ?_
    refine s_nil ?_
    exact p_lpN ⟨k + 1, (ps.take ((j).toNat) ++ [(⟨(Pk.p x12).message, (Pk.p x12).part, (Pk.p x12).parts, sv136, (Pk.p x12).signals⟩ : Pk)] ++ ps.drop ((j).toNat)), r149, ⟨rfl, rfl, rfl, rfl⟩, ⟨E151, (D158.mono (by omega)), (by exact ⟨by omega, ins_step (e := (⟨(Pk.p x12).message, (Pk.p x12).part, (Pk.p x12).parts, sv136, (Pk.p x12).signals⟩ : Pk)) hps (by assumption : l[k]? = some x12) rfl hj0 hjl hJ (fun y hy hz => by first | omega | (have hzz := (by assumption : ps[(j - 1).toNat]? = some x12)); (obtain rfl := Option.some.inj (hz.symm.trans hzz)); (show ¬ (_ < _ ∨ (_ = _ ∧ _ < _))); simp only; omega)⟩)⟩, by omega⟩
  ·
   refine v_exit ?_
   refine p_seqX ?_
   refine p_lpX ?_
   refine p_blkX ?_
   refine p_seqN ?_
   refine v_seq ?_
   refine v_ops ?_
   refine s_pure o (fun _ q => q) ?_
   refine s_pure o (fun _ q => q) ?_
   refine s_pure (.bool true) (fun _ q => q) ?_
   refine s_nil ?_
   refine p_seqN ?_
   refine v_ret ?_
   refine p_ret [o, .bool true] (.tuple #[o, .bool true]) (fun _ q => q) rfl ?_
   have ho : srtOut (l.map Pk.p) = ((ps.map Pk.p), true) := by first | exact so_no (by assumption) | exact so_spec (by assumption) hps (by assumption)
   exact ⟨o, ps, by first | (rw [ho]; done) | rfl, (s_o.mono (by omega)), (congrArg (fun o => o.1) ho).symm, Eh⟩


theorem srt_mem {l : List PkP} : ∀ p ∈ srtL l, p ∈ l := by
 intro p hp
 have h : p ∈ clsP (ppKey p) (srtL l) := List.mem_filter.2 ⟨hp, by simp⟩
 rw [(srt_props l).2] at h
 exact (List.mem_filter.1 h).1
end Go.Proofs.Ytjmcijcdncgaiaa


/- A cursor: a variable of a row of bytes, a place and a seed, that each draw changes. Condition: none. -/
namespace Go.Vc
set_option linter.all false
structure Cur (h : Heap) (p : Nat) (t : TypeId) (m : Int) (lo : Nat) : Prop where
 out : ∃ (vc : Value) (code : List By) (at_ sd : Int), Bx h p [vc, .int .i64 at_, .int .u64 sd] t ∧ Sl h vc code ∧ (∀ b ∈ blks vc, b < lo) ∧ 0 ≤ at_ ∧ at_ ≤ m ∧ ∀ y ∈ code, 0 ≤ y.n ∧ y.n ≤ 255
 low : lo ≤ p
theorem Cur.mk2 {h : Heap} {p : Nat} {t : TypeId} {m : Int} {lo : Nat} {vc : Value} {code : List By} {at_ sd : Int} (bx : Bx h p [vc, .int .i64 at_, .int .u64 sd] t) (s : Sl h vc code) (hcl : ∀ b ∈ blks vc, b < lo) (hby : ∀ y ∈ code, 0 ≤ y.n ∧ y.n ≤ 255) (hat : 0 ≤ at_ ∧ at_ ≤ m) (hlo : lo ≤ p) : Cur h p t m lo :=
 ⟨⟨vc, code, at_, sd, bx, s, hcl, hat.1, hat.2, hby⟩, hlo⟩
theorem Cur.lt {h : Heap} {p : Nat} {t : TypeId} {m : Int} {lo : Nat} (C : Cur h p t m lo) : p < h.size := by
 obtain ⟨_, _, _, _, bx, _⟩ := C.out; exact bx.lt
theorem Cur.top {h : Heap} {p : Nat} {t : TypeId} {m : Int} {lo : Nat} (C : Cur h p t m lo) : 0 ≤ m := by
 obtain ⟨_, _, _, _, _, _, _, h0, h1, _⟩ := C.out; omega
theorem Cur.le {h : Heap} {p : Nat} {t : TypeId} {m m' : Int} {lo : Nat} (C : Cur h p t m lo) (hm : m ≤ m') : Cur h p t m' lo := by
 obtain ⟨vc, code, at_, sd, bx, s, h1, h2, h3, h4⟩ := C.out
 exact ⟨⟨vc, code, at_, sd, bx, s, h1, h2, by omega, h4⟩, C.low⟩
theorem Cur.ext {h h' : Heap} {p : Nat} {t : TypeId} {m : Int} {lo : Nat} (C : Cur h p t m lo) (e : Ext h h') : Cur h' p t m lo := by
 obtain ⟨vc, code, at_, sd, bx, s, h1, h2, h3, h4⟩ := C.out
 exact ⟨⟨vc, code, at_, sd, bx.ext e, s.ext e, h1, h2, h3, h4⟩, C.low⟩
theorem Cur.mod {h h' : Heap} {p : Nat} {t : TypeId} {m : Int} {lo : Nat} (C : Cur h p t m lo) {bs : List Nat} (e : Mod bs h h') (hp : p ∉ bs) (hl : ∀ b ∈ bs, lo ≤ b) : Cur h' p t m lo := by
 obtain ⟨vc, code, at_, sd, bx, s, h1, h2, h3, h4⟩ := C.out
 exact ⟨⟨vc, code, at_, sd, bx.mod e hp, s.mod e (fun b hb hc => by have := h1 b hb; have := hl b hc; omega), h1, h2, h3, h4⟩, C.low⟩
theorem bits_255 (a : Int) : 0 ≤ bits .and .u64 a 255 ∧ bits .and .u64 a 255 ≤ 255 := by
 have h : (BitVec.ofInt 64 a &&& BitVec.ofInt 64 255).toNat ≤ 255 := by
  rw [BitVec.toNat_and]
  have e : (BitVec.ofInt 64 255).toNat = 255 := by decide
  rw [e]; exact Nat.and_le_right
 have e : bits .and .u64 a 255 = IntKind.u64.wrap ((BitVec.ofInt 64 a &&& BitVec.ofInt 64 255).toNat : Int) := rfl
 rw [e]
 generalize (BitVec.ofInt 64 a &&& BitVec.ofInt 64 255).toNat = n at h
 have : IntKind.u64.wrap (n : Int) = n := by
  simp [IntKind.wrap, IntKind.bits, IntKind.signed]
  omega
 omega
theorem bits_64 (a : Int) : -9223372036854775808 ≤ bits .and .u64 a 255 ∧ bits .and .u64 a 255 ≤ 9223372036854775807 := by
 have := bits_255 a; omega
theorem emod_in (a : Int) {n : Int} (h : 0 < n) : 0 ≤ a % n ∧ (a % n < n ∨ a % n = 0) :=
 ⟨Int.emod_nonneg a (by omega), .inl (Int.emod_lt_of_pos a h)⟩
end Go.Vc


/- Draws from a cursor. Condition: none. Printed in part by a program. -/
namespace Go.Proofs.Ytjmcijcdncgaiaa
open Go.Vc
set_option linter.all false
set_option maxRecDepth 10000 in
set_option maxHeartbeats 4000000 in
theorem spec_l1Cur_next_ok (p_c : Nat) (t_c : TypeId) (m_c : Int) (lo_c : Nat) (h : Heap) (C_c : Cur h p_c t_c m_c lo_c) (hm : m_c + 1 ≤ 4000000000000000000) : Cn f_spec_l1Cur_next [.pointer (some ⟨p_c, 0, none⟩)] h fun v h' => ∃ g0 : Int, v = .int .i64 g0 ∧ (0 ≤ g0 ∧ g0 ≤ 255) ∧ Cur h' p_c t_c (m_c + 1) lo_c ∧ Mod [p_c] h h' := by
 obtain ⟨vc_c, code, at_c, sd_c, bx_c, s_code, hcl, hat0, hat1, hby⟩ := C_c.out
 have lc_c := C_c.lt
 have ll_c := C_c.low
 have lt_code := s_code.lt
 have l63_code := s_code.len63
 have apc : ∀ b ∈ blks vc_c, b ∉ [p_c] := fun b hb hc => by simp at hc; have := hcl b hb; omega
 refine calls_of r_spec_l1Cur_next ?_
 refine v_seq ?_
 refine v_ops ?_
 refine s_pure (.int .i64 0) (fun _ q => q) ?_
 refine s_nil ?_
 refine p_seqN ?_
 refine v_seq ?_
 refine v_ops ?_
 refine s_pure (.int .i64 0) (fun _ q => q) ?_
 refine s_nil ?_
 refine p_seqN ?_
 refine v_seq ?_
 refine v_seq ?_
 refine v_ops ?_
 refine s_pure (.pointer (some ⟨p_c, 0, none⟩)) (fun _ q => q) ?_
 refine s_pure (.pointer (some ⟨p_c, 0, none⟩)) (fun _ q => q) ?_
 refine s_pure (.pointer (some ⟨p_c, 1, none⟩)) (fun _ q => q) ?_
 refine s_pure (.pointer (some ⟨p_c, 0, none⟩)) (fun _ q => q) ?_
 refine s_pure (.pointer (some ⟨p_c, 0, none⟩)) (fun _ q => q) ?_
 refine s_pure (.pointer (some ⟨p_c, 0, none⟩)) (fun _ q => q) ?_
 refine s_load (.int .i64 at_c) (fun _ q => bx_c.load rfl q) ?_
 refine s_load vc_c (fun _ q => bx_c.load rfl q) ?_
 refine s_pure (.int .i64 (code.length : Int)) (fun _ q => s_code.lenVC q) ?_
 refine s_pure (.bool (decide (at_c < (code.length : Int)))) (fun _ q => q) ?_
 refine s_nil ?_
 refine p_seqN ?_
 refine v_cond rfl (fun c1 => ?_) (fun c1 => ?_)
 ·
  refine v_ops ?_
  refine s_pure (.pointer (some ⟨p_c, 0, none⟩)) (fun _ q => q) ?_
  refine s_pure (.pointer (some ⟨p_c, 0, none⟩)) (fun _ q => q) ?_
  refine s_pure (.pointer (some ⟨p_c, 0, none⟩)) (fun _ q => q) ?_
  refine s_pure (.pointer (some ⟨p_c, 0, none⟩)) (fun _ q => q) ?_
  refine s_pure (.pointer (some ⟨p_c, 0, none⟩)) (fun _ q => q) ?_
  refine s_pure (.pointer (some ⟨p_c, 1, none⟩)) (fun _ q => q) ?_
  refine s_load vc_c (fun _ q => bx_c.load rfl q) ?_
  refine s_load (.int .i64 at_c) (fun _ q => bx_c.load rfl q) ?_
  have hk2 : (at_c).toNat < code.length := (by first | omega | (simp; omega))
  obtain ⟨x3, hx3⟩ : ∃ x, code[(at_c).toNat]? = some x := ⟨_, List.getElem?_eq_getElem hk2⟩
  refine s_pure (.pointer (some ⟨sblk vc_c, soff vc_c + ((at_c).toNat) * 1, none⟩)) (fun _ q => s_code.idx (k := (at_c).toNat) (by omega) hk2 q) ?_
  refine s_load (.int .u8 x3.n) (fun _ q => s_code.load1 hx3 rfl q) ?_
  refine s_pure (.int .i64 x3.n) (fun _ q => conv_i64 (by have := hby _ (List.mem_of_getElem? (by assumption : code[at_c.toNat]? = some _)); omega) q) ?_
  refine s_pure (.int .i64 x3.n) (fun _ q => q) ?_
  refine s_nil ?_
  refine p_seqN ?_
  refine v_seq ?_
  refine v_ops ?_
  refine s_pure (.pointer (some ⟨p_c, 0, none⟩)) (fun _ q => q) ?_
  refine s_pure (.pointer (some ⟨p_c, 0, none⟩)) (fun _ q => q) ?_
  refine s_pure (.pointer (some ⟨p_c, 1, none⟩)) (fun _ q => q) ?_
  refine s_load (.int .i64 at_c) (fun _ q => bx_c.load rfl q) ?_
  refine s_pure (.int .i64 (at_c + 1)) (fun _ q => ArithVC.mk (by omega) q) ?_
  refine s_pure (.pointer (some ⟨p_c, 0, none⟩)) (fun _ q => q) ?_
  refine s_pure (.pointer (some ⟨p_c, 1, none⟩)) (fun _ q => q) ?_
  refine s_stBx (.int .i64 (at_c + 1)) [.int .i64 (at_c + 1)] [vc_c, .int .i64 (at_c + 1), .int .u64 sd_c] bx_c rfl rfl rfl rfl (by simp) (all_cons rfl all_nil) rfl (fun h4 mh4 sh4 bxx5 => ?_)
  have E6 := (Mod.refl [p_c] h).new mh4 (fun b hb => .inl (by simp at hb; simp [hb]))
  refine s_nil ?_
  refine p_seqN ?_
  refine v_seq ?_
  refine v_ops ?_
  refine s_pure (.pointer (some ⟨p_c, 0, none⟩)) (fun _ q => q) ?_
  refine s_pure (.pointer (some ⟨p_c, 0, none⟩)) (fun _ q => q) ?_
  refine s_pure (.pointer (some ⟨p_c, 0, none⟩)) (fun _ q => q) ?_
  refine s_pure (.pointer (some ⟨p_c, 2, none⟩)) (fun _ q => q) ?_
  refine s_load (.int .u64 sd_c) (fun _ q => bxx5.load rfl q) ?_
  refine s_pure (.int .u64 (IntKind.u64.wrap (sd_c * 6364136223846793005))) (fun _ q => ArithVC.raw q) ?_
  refine s_pure (.int .i64 x3.n) (fun _ q => q) ?_
  refine s_pure (.int .u64 (IntKind.u64.wrap x3.n)) (fun _ q => q) ?_
  refine s_pure (.int .u64 (IntKind.u64.wrap ((IntKind.u64.wrap (sd_c * 6364136223846793005)) + (IntKind.u64.wrap x3.n)))) (fun _ q => ArithVC.raw q) ?_
  refine s_pure (.int .u64 (IntKind.u64.wrap ((IntKind.u64.wrap ((IntKind.u64.wrap (sd_c * 6364136223846793005)) + (IntKind.u64.wrap x3.n))) + 1442695040888963407))) (fun _ q => ArithVC.raw q) ?_
  refine s_pure (.pointer (some ⟨p_c, 0, none⟩)) (fun _ q => q) ?_
  refine s_pure (.pointer (some ⟨p_c, 2, none⟩)) (fun _ q => q) ?_
  refine s_stBx (.int .u64 (IntKind.u64.wrap ((IntKind.u64.wrap ((IntKind.u64.wrap (sd_c * 6364136223846793005)) + (IntKind.u64.wrap x3.n))) + 1442695040888963407))) [.int .u64 (IntKind.u64.wrap ((IntKind.u64.wrap ((IntKind.u64.wrap (sd_c * 6364136223846793005)) + (IntKind.u64.wrap x3.n))) + 1442695040888963407))] [vc_c, .int .i64 (at_c + 1), .int .u64 (IntKind.u64.wrap ((IntKind.u64.wrap ((IntKind.u64.wrap (sd_c * 6364136223846793005)) + (IntKind.u64.wrap x3.n))) + 1442695040888963407))] bxx5 rfl rfl rfl rfl (by simp) (all_cons rfl all_nil) rfl (fun h7 mh7 sh7 bxx8 => ?_)
  have E9 := E6.new mh7 (fun b hb => .inl (by simp at hb; simp [hb]))
  refine s_nil ?_
  refine p_seqN ?_
  refine v_seq ?_
  refine v_seq ?_
  refine v_ops ?_
  refine s_pure (.pointer (some ⟨p_c, 0, none⟩)) (fun _ q => q) ?_
  refine s_pure (.pointer (some ⟨p_c, 0, none⟩)) (fun _ q => q) ?_
  refine s_pure (.pointer (some ⟨p_c, 1, none⟩)) (fun _ q => q) ?_
  refine s_pure (.pointer (some ⟨p_c, 0, none⟩)) (fun _ q => q) ?_
  refine s_pure (.pointer (some ⟨p_c, 0, none⟩)) (fun _ q => q) ?_
  refine s_pure (.pointer (some ⟨p_c, 0, none⟩)) (fun _ q => q) ?_
  refine s_load (.int .i64 (at_c + 1)) (fun _ q => bxx8.load rfl q) ?_
  refine s_load vc_c (fun _ q => bxx8.load rfl q) ?_
  refine s_pure (.int .i64 (code.length : Int)) (fun _ q => s_code.lenVC q) ?_
  refine s_pure (.bool (decide ((at_c + 1) ≤ (code.length : Int)))) (fun _ q => q) ?_
  refine s_nil ?_
  refine p_seqN ?_
  refine v_cond rfl (fun c10 => ?_) (fun c10 => ?_)
  ·
   refine v_seq ?_
   refine v_ops ?_
   refine s_pure (.int .i64 x3.n) (fun _ q => q) ?_
   refine s_pure (.int .i64 x3.n) (fun _ q => q) ?_
   refine s_nil ?_
   refine p_seqN ?_
   refine v_ret ?_
   refine p_seqR ?_
   refine p_ret [.int .i64 x3.n] (.int .i64 x3.n) (fun _ q => q) rfl ?_
   have f11 := ((s_code.mod mh4 apc).mod mh7 apc)
   exact ⟨x3.n, rfl, (by first | (have := hby _ (List.mem_of_getElem? (by assumption : code[at_c.toNat]? = some _)); omega) | exact bits_255 _ | omega), ((Cur.mk2 bxx8 f11 hcl hby (m := m_c + 1) (by omega) ll_c).le (by omega)), E9⟩
  ·
   refine v_skip ?_
   refine p_seqN ?_
   refine v_seq ?_
   refine v_ops ?_
   refine s_pure (.pointer (some ⟨p_c, 0, none⟩)) (fun _ q => q) ?_
   refine s_pure (.pointer (some ⟨p_c, 0, none⟩)) (fun _ q => q) ?_
   refine s_pure (.pointer (some ⟨p_c, 2, none⟩)) (fun _ q => q) ?_
   refine s_load (.int .u64 (IntKind.u64.wrap ((IntKind.u64.wrap ((IntKind.u64.wrap (sd_c * 6364136223846793005)) + (IntKind.u64.wrap x3.n))) + 1442695040888963407))) (fun _ q => bxx8.load rfl q) ?_
   refine s_pure (.int .u64 (((IntKind.u64.wrap ((IntKind.u64.wrap ((IntKind.u64.wrap (sd_c * 6364136223846793005)) + (IntKind.u64.wrap x3.n))) + 1442695040888963407))).fdiv (2 ^ (min ((40) : Int).toNat IntKind.u64.bits)))) (fun _ q => ⟨by decide, q⟩) ?_
   refine s_pure (.int .u64 (bits .and .u64 (((IntKind.u64.wrap ((IntKind.u64.wrap ((IntKind.u64.wrap (sd_c * 6364136223846793005)) + (IntKind.u64.wrap x3.n))) + 1442695040888963407))).fdiv (2 ^ (min ((40) : Int).toNat IntKind.u64.bits))) 255)) (fun _ q => BitsVC.mk q) ?_
   refine s_pure (.int .i64 (bits .and .u64 (((IntKind.u64.wrap ((IntKind.u64.wrap ((IntKind.u64.wrap (sd_c * 6364136223846793005)) + (IntKind.u64.wrap x3.n))) + 1442695040888963407))).fdiv (2 ^ (min ((40) : Int).toNat IntKind.u64.bits))) 255)) (fun _ q => conv_i64 (bits_64 _) q) ?_
   refine s_pure (.int .i64 (bits .and .u64 (((IntKind.u64.wrap ((IntKind.u64.wrap ((IntKind.u64.wrap (sd_c * 6364136223846793005)) + (IntKind.u64.wrap x3.n))) + 1442695040888963407))).fdiv (2 ^ (min ((40) : Int).toNat IntKind.u64.bits))) 255)) (fun _ q => q) ?_
   refine s_nil ?_
   refine p_seqN ?_
   refine v_ret ?_
   refine p_ret [.int .i64 (bits .and .u64 (((IntKind.u64.wrap ((IntKind.u64.wrap ((IntKind.u64.wrap (sd_c * 6364136223846793005)) + (IntKind.u64.wrap x3.n))) + 1442695040888963407))).fdiv (2 ^ (min ((40) : Int).toNat IntKind.u64.bits))) 255)] (.int .i64 (bits .and .u64 (((IntKind.u64.wrap ((IntKind.u64.wrap ((IntKind.u64.wrap (sd_c * 6364136223846793005)) + (IntKind.u64.wrap x3.n))) + 1442695040888963407))).fdiv (2 ^ (min ((40) : Int).toNat IntKind.u64.bits))) 255)) (fun _ q => q) rfl ?_
   have f12 := ((s_code.mod mh4 apc).mod mh7 apc)
   exact ⟨(bits .and .u64 (((IntKind.u64.wrap ((IntKind.u64.wrap ((IntKind.u64.wrap (sd_c * 6364136223846793005)) + (IntKind.u64.wrap x3.n))) + 1442695040888963407))).fdiv (2 ^ (min ((40) : Int).toNat IntKind.u64.bits))) 255), rfl, (by first | (have := hby _ (List.mem_of_getElem? (by assumption : code[at_c.toNat]? = some _)); omega) | exact bits_255 _ | omega), ((Cur.mk2 bxx8 f12 hcl hby (m := m_c + 1) (by omega) ll_c).le (by omega)), E9⟩
 ·
  refine v_skip ?_
  refine p_seqN ?_
  refine v_seq ?_
  refine v_ops ?_
  refine s_pure (.pointer (some ⟨p_c, 0, none⟩)) (fun _ q => q) ?_
  refine s_pure (.pointer (some ⟨p_c, 0, none⟩)) (fun _ q => q) ?_
  refine s_pure (.pointer (some ⟨p_c, 1, none⟩)) (fun _ q => q) ?_
  refine s_load (.int .i64 at_c) (fun _ q => bx_c.load rfl q) ?_
  refine s_pure (.int .i64 (at_c + 1)) (fun _ q => ArithVC.mk (by omega) q) ?_
  refine s_pure (.pointer (some ⟨p_c, 0, none⟩)) (fun _ q => q) ?_
  refine s_pure (.pointer (some ⟨p_c, 1, none⟩)) (fun _ q => q) ?_
  refine s_stBx (.int .i64 (at_c + 1)) [.int .i64 (at_c + 1)] [vc_c, .int .i64 (at_c + 1), .int .u64 sd_c] bx_c rfl rfl rfl rfl (by simp) (all_cons rfl all_nil) rfl (fun h13 mh13 sh13 bxx14 => ?_)
  have E15 := (Mod.refl [p_c] h).new mh13 (fun b hb => .inl (by simp at hb; simp [hb]))
  refine s_nil ?_
  refine p_seqN ?_
  refine v_seq ?_
  refine v_ops ?_
  refine s_pure (.pointer (some ⟨p_c, 0, none⟩)) (fun _ q => q) ?_
  refine s_pure (.pointer (some ⟨p_c, 0, none⟩)) (fun _ q => q) ?_
  refine s_pure (.pointer (some ⟨p_c, 0, none⟩)) (fun _ q => q) ?_
  refine s_pure (.pointer (some ⟨p_c, 2, none⟩)) (fun _ q => q) ?_
  refine s_load (.int .u64 sd_c) (fun _ q => bxx14.load rfl q) ?_
  refine s_pure (.int .u64 (IntKind.u64.wrap (sd_c * 6364136223846793005))) (fun _ q => ArithVC.raw q) ?_
  refine s_pure (.int .i64 0) (fun _ q => q) ?_
  refine s_pure (.int .u64 (IntKind.u64.wrap 0)) (fun _ q => q) ?_
  refine s_pure (.int .u64 (IntKind.u64.wrap ((IntKind.u64.wrap (sd_c * 6364136223846793005)) + (IntKind.u64.wrap 0)))) (fun _ q => ArithVC.raw q) ?_
  refine s_pure (.int .u64 (IntKind.u64.wrap ((IntKind.u64.wrap ((IntKind.u64.wrap (sd_c * 6364136223846793005)) + (IntKind.u64.wrap 0))) + 1442695040888963407))) (fun _ q => ArithVC.raw q) ?_
  refine s_pure (.pointer (some ⟨p_c, 0, none⟩)) (fun _ q => q) ?_
  refine s_pure (.pointer (some ⟨p_c, 2, none⟩)) (fun _ q => q) ?_
  refine s_stBx (.int .u64 (IntKind.u64.wrap ((IntKind.u64.wrap ((IntKind.u64.wrap (sd_c * 6364136223846793005)) + (IntKind.u64.wrap 0))) + 1442695040888963407))) [.int .u64 (IntKind.u64.wrap ((IntKind.u64.wrap ((IntKind.u64.wrap (sd_c * 6364136223846793005)) + (IntKind.u64.wrap 0))) + 1442695040888963407))] [vc_c, .int .i64 (at_c + 1), .int .u64 (IntKind.u64.wrap ((IntKind.u64.wrap ((IntKind.u64.wrap (sd_c * 6364136223846793005)) + (IntKind.u64.wrap 0))) + 1442695040888963407))] bxx14 rfl rfl rfl rfl (by simp) (all_cons rfl all_nil) rfl (fun h16 mh16 sh16 bxx17 => ?_)
  have E18 := E15.new mh16 (fun b hb => .inl (by simp at hb; simp [hb]))
  refine s_nil ?_
  refine p_seqN ?_
  refine v_seq ?_
  refine v_seq ?_
  refine v_ops ?_
  refine s_pure (.pointer (some ⟨p_c, 0, none⟩)) (fun _ q => q) ?_
  refine s_pure (.pointer (some ⟨p_c, 0, none⟩)) (fun _ q => q) ?_
  refine s_pure (.pointer (some ⟨p_c, 1, none⟩)) (fun _ q => q) ?_
  refine s_pure (.pointer (some ⟨p_c, 0, none⟩)) (fun _ q => q) ?_
  refine s_pure (.pointer (some ⟨p_c, 0, none⟩)) (fun _ q => q) ?_
  refine s_pure (.pointer (some ⟨p_c, 0, none⟩)) (fun _ q => q) ?_
  refine s_load (.int .i64 (at_c + 1)) (fun _ q => bxx17.load rfl q) ?_
  refine s_load vc_c (fun _ q => bxx17.load rfl q) ?_
  refine s_pure (.int .i64 (code.length : Int)) (fun _ q => s_code.lenVC q) ?_
  refine s_pure (.bool (decide ((at_c + 1) ≤ (code.length : Int)))) (fun _ q => q) ?_
  refine s_nil ?_
  refine p_seqN ?_
  refine v_cond rfl (fun c19 => ?_) (fun c19 => ?_)
  ·
   refine v_seq ?_
   refine v_ops ?_
   refine s_pure (.int .i64 0) (fun _ q => q) ?_
   refine s_pure (.int .i64 0) (fun _ q => q) ?_
   refine s_nil ?_
   refine p_seqN ?_
   refine v_ret ?_
   refine p_seqR ?_
   refine p_ret [.int .i64 0] (.int .i64 0) (fun _ q => q) rfl ?_
   have f20 := ((s_code.mod mh13 apc).mod mh16 apc)
   exact ⟨0, rfl, (by first | (have := hby _ (List.mem_of_getElem? (by assumption : code[at_c.toNat]? = some _)); omega) | exact bits_255 _ | omega), ((Cur.mk2 bxx17 f20 hcl hby (m := m_c + 1) (by omega) ll_c).le (by omega)), E18⟩
  ·
   refine v_skip ?_
   refine p_seqN ?_
   refine v_seq ?_
   refine v_ops ?_
   refine s_pure (.pointer (some ⟨p_c, 0, none⟩)) (fun _ q => q) ?_
   refine s_pure (.pointer (some ⟨p_c, 0, none⟩)) (fun _ q => q) ?_
   refine s_pure (.pointer (some ⟨p_c, 2, none⟩)) (fun _ q => q) ?_
   refine s_load (.int .u64 (IntKind.u64.wrap ((IntKind.u64.wrap ((IntKind.u64.wrap (sd_c * 6364136223846793005)) + (IntKind.u64.wrap 0))) + 1442695040888963407))) (fun _ q => bxx17.load rfl q) ?_
   refine s_pure (.int .u64 (((IntKind.u64.wrap ((IntKind.u64.wrap ((IntKind.u64.wrap (sd_c * 6364136223846793005)) + (IntKind.u64.wrap 0))) + 1442695040888963407))).fdiv (2 ^ (min ((40) : Int).toNat IntKind.u64.bits)))) (fun _ q => ⟨by decide, q⟩) ?_
   refine s_pure (.int .u64 (bits .and .u64 (((IntKind.u64.wrap ((IntKind.u64.wrap ((IntKind.u64.wrap (sd_c * 6364136223846793005)) + (IntKind.u64.wrap 0))) + 1442695040888963407))).fdiv (2 ^ (min ((40) : Int).toNat IntKind.u64.bits))) 255)) (fun _ q => BitsVC.mk q) ?_
   refine s_pure (.int .i64 (bits .and .u64 (((IntKind.u64.wrap ((IntKind.u64.wrap ((IntKind.u64.wrap (sd_c * 6364136223846793005)) + (IntKind.u64.wrap 0))) + 1442695040888963407))).fdiv (2 ^ (min ((40) : Int).toNat IntKind.u64.bits))) 255)) (fun _ q => conv_i64 (bits_64 _) q) ?_
   refine s_pure (.int .i64 (bits .and .u64 (((IntKind.u64.wrap ((IntKind.u64.wrap ((IntKind.u64.wrap (sd_c * 6364136223846793005)) + (IntKind.u64.wrap 0))) + 1442695040888963407))).fdiv (2 ^ (min ((40) : Int).toNat IntKind.u64.bits))) 255)) (fun _ q => q) ?_
   refine s_nil ?_
   refine p_seqN ?_
   refine v_ret ?_
   refine p_ret [.int .i64 (bits .and .u64 (((IntKind.u64.wrap ((IntKind.u64.wrap ((IntKind.u64.wrap (sd_c * 6364136223846793005)) + (IntKind.u64.wrap 0))) + 1442695040888963407))).fdiv (2 ^ (min ((40) : Int).toNat IntKind.u64.bits))) 255)] (.int .i64 (bits .and .u64 (((IntKind.u64.wrap ((IntKind.u64.wrap ((IntKind.u64.wrap (sd_c * 6364136223846793005)) + (IntKind.u64.wrap 0))) + 1442695040888963407))).fdiv (2 ^ (min ((40) : Int).toNat IntKind.u64.bits))) 255)) (fun _ q => q) rfl ?_
   have f21 := ((s_code.mod mh13 apc).mod mh16 apc)
   exact ⟨(bits .and .u64 (((IntKind.u64.wrap ((IntKind.u64.wrap ((IntKind.u64.wrap (sd_c * 6364136223846793005)) + (IntKind.u64.wrap 0))) + 1442695040888963407))).fdiv (2 ^ (min ((40) : Int).toNat IntKind.u64.bits))) 255), rfl, (by first | (have := hby _ (List.mem_of_getElem? (by assumption : code[at_c.toNat]? = some _)); omega) | exact bits_255 _ | omega), ((Cur.mk2 bxx17 f21 hcl hby (m := m_c + 1) (by omega) ll_c).le (by omega)), E18⟩

theorem spec_l1Cur_pick_ok (p_c : Nat) (t_c : TypeId) (m_c : Int) (lo_c : Nat) (n : Int) (h : Heap) (C_c : Cur h p_c t_c m_c lo_c) (hm : m_c + 2 ≤ 4000000000000000000) : Cn f_spec_l1Cur_pick [.pointer (some ⟨p_c, 0, none⟩), .int .i64 n] h fun v h' => ∃ g0 : Int, v = .int .i64 g0 ∧ (0 ≤ g0 ∧ (g0 < n ∨ g0 = 0)) ∧ Cur h' p_c t_c (m_c + 2) lo_c ∧ Mod [p_c] h h' := by
 have lc_c := C_c.lt
 have ll_c := C_c.low
 have lm_c := C_c.top
 refine calls_of r_spec_l1Cur_pick ?_
 refine v_seq ?_
 refine v_ops ?_
 refine s_pure (.int .i64 0) (fun _ q => q) ?_
 refine s_nil ?_
 refine p_seqN ?_
 refine v_seq ?_
 refine v_seq ?_
 refine v_ops ?_
 refine s_pure (.int .i64 n) (fun _ q => q) ?_
 refine s_pure (.bool (decide (n ≤ 1))) (fun _ q => q) ?_
 refine s_nil ?_
 refine p_seqN ?_
 refine v_cond rfl (fun c1 => ?_) (fun c1 => ?_)
 ·
  refine v_seq ?_
  refine v_ops ?_
  refine s_pure (.int .i64 0) (fun _ q => q) ?_
  refine s_nil ?_
  refine p_seqN ?_
  refine v_ret ?_
  refine p_seqR ?_
  refine p_ret [.int .i64 0] (.int .i64 0) (fun _ q => q) rfl ?_
  exact ⟨0, rfl, (by first | omega | exact emod_in _ (by omega)), (C_c.le (by omega)), (Mod.refl [p_c] h)⟩
 ·
  refine v_skip ?_
  refine p_seqN ?_
  refine v_seq ?_
  refine v_ops ?_
  refine s_pure (.pointer (some ⟨p_c, 0, none⟩)) (fun _ q => q) ?_
  refine s_call [.pointer (some ⟨p_c, 0, none⟩)] rfl (spec_l1Cur_next_ok p_c t_c m_c lo_c _ C_c (by omega)) ?_
  rintro _ h3 ⟨g2, rfl, qh3, Ch3, mh3⟩
  have zh3 := mh3.size
  have E4 := (Mod.refl [p_c] h).new mh3 (fun b hb => .inl (by simp at hb; simp [hb]))
  refine s_pure (.int .i64 g2) (fun _ q => q) ?_
  refine s_nil ?_
  refine p_seqN ?_
  refine v_seq ?_
  refine v_seq ?_
  refine v_ops ?_
  refine s_pure (.int .i64 n) (fun _ q => q) ?_
  refine s_pure (.bool (decide (n > 200))) (fun _ q => q) ?_
  refine s_nil ?_
  refine p_seqN ?_
  refine v_cond rfl (fun c5 => ?_) (fun c5 => ?_)
  ·
   refine v_ops ?_
   refine s_pure (.int .i64 g2) (fun _ q => q) ?_
   refine s_pure (.int .i64 (g2 * 256)) (fun _ q => ArithVC.mk (by omega) q) ?_
   refine s_pure (.pointer (some ⟨p_c, 0, none⟩)) (fun _ q => q) ?_
   refine s_call [.pointer (some ⟨p_c, 0, none⟩)] rfl (spec_l1Cur_next_ok p_c t_c (m_c + 1) lo_c _ Ch3 (by omega)) ?_
   rintro _ h7 ⟨g6, rfl, qh7, Ch7, mh7⟩
   have zh7 := mh7.size
   have E8 := E4.new mh7 (fun b hb => .inl (by simp at hb; simp [hb]))
   refine s_pure (.int .i64 ((g2 * 256) + g6)) (fun _ q => ArithVC.mk (by omega) q) ?_
   refine s_pure (.int .i64 ((g2 * 256) + g6)) (fun _ q => q) ?_
   refine s_nil ?_
   refine p_seqN ?_
   refine v_seq ?_
   refine v_ops ?_
   refine s_pure (.int .i64 ((g2 * 256) + g6)) (fun _ q => q) ?_
   refine s_pure (.int .i64 n) (fun _ q => q) ?_
   refine s_pure (.int .i64 (((g2 * 256) + g6) % n)) (fun _ q => RemVC.mk (by omega) (by omega) q) ?_
   refine s_pure (.int .i64 (((g2 * 256) + g6) % n)) (fun _ q => q) ?_
   refine s_nil ?_
   refine p_seqN ?_
   refine v_ret ?_
   refine p_ret [.int .i64 (((g2 * 256) + g6) % n)] (.int .i64 (((g2 * 256) + g6) % n)) (fun _ q => q) rfl ?_
   exact ⟨(((g2 * 256) + g6) % n), rfl, (by first | omega | exact emod_in _ (by omega)), (Ch7.le (by omega)), E8⟩
  ·
   refine v_skip ?_
   refine p_seqN ?_
   refine v_seq ?_
   refine v_ops ?_
   refine s_pure (.int .i64 g2) (fun _ q => q) ?_
   refine s_pure (.int .i64 n) (fun _ q => q) ?_
   refine s_pure (.int .i64 (g2 % n)) (fun _ q => RemVC.mk (by omega) (by omega) q) ?_
   refine s_pure (.int .i64 (g2 % n)) (fun _ q => q) ?_
   refine s_nil ?_
   refine p_seqN ?_
   refine v_ret ?_
   refine p_ret [.int .i64 (g2 % n)] (.int .i64 (g2 % n)) (fun _ q => q) rfl ?_
   exact ⟨(g2 % n), rfl, (by first | omega | exact emod_in _ (by omega)), (Ch3.le (by omega)), E4⟩

theorem spec_l1Cur_one_ok (p_c : Nat) (t_c : TypeId) (m_c : Int) (lo_c : Nat) (n : Int) (h : Heap) (C_c : Cur h p_c t_c m_c lo_c) (hm : m_c + 2 ≤ 4000000000000000000) : Cn f_spec_l1Cur_one [.pointer (some ⟨p_c, 0, none⟩), .int .i64 n] h fun v h' => ∃ g0 : Bool, v = .bool g0 ∧ Cur h' p_c t_c (m_c + 2) lo_c ∧ Mod [p_c] h h' := by
 have lc_c := C_c.lt
 have ll_c := C_c.low
 have lm_c := C_c.top
 refine calls_of r_spec_l1Cur_one ?_
 refine v_seq ?_
 refine v_ops ?_
 refine s_pure (.bool false) (fun _ q => q) ?_
 refine s_nil ?_
 refine p_seqN ?_
 refine v_seq ?_
 refine v_ops ?_
 refine s_pure (.pointer (some ⟨p_c, 0, none⟩)) (fun _ q => q) ?_
 refine s_pure (.int .i64 n) (fun _ q => q) ?_
 refine s_call [.pointer (some ⟨p_c, 0, none⟩), .int .i64 n] rfl (spec_l1Cur_pick_ok p_c t_c m_c lo_c n _ C_c (by omega)) ?_
 rintro _ h2 ⟨g1, rfl, qh2, Ch2, mh2⟩
 have zh2 := mh2.size
 have E3 := (Mod.refl [p_c] h).new mh2 (fun b hb => .inl (by simp at hb; simp [hb]))
 refine s_pure (.bool (g1 == 0)) (fun _ q => q) ?_
 refine s_pure (.bool (g1 == 0)) (fun _ q => q) ?_
 refine s_nil ?_
 refine p_seqN ?_
 refine v_ret ?_
 refine p_ret [.bool (g1 == 0)] (.bool (g1 == 0)) (fun _ q => q) rfl ?_
 exact ⟨(g1 == 0), rfl, (Ch2.le (by omega)), E3⟩

theorem spec_l1Cur_among_ok (p_c : Nat) (t_c : TypeId) (m_c : Int) (lo_c : Nat) (v_l : Value) (l : List Int) (h : Heap) (C_c : Cur h p_c t_c m_c lo_c) (s_l : Sl h v_l l) (ap_l : ∀ b ∈ blks v_l, b ∉ [p_c]) (hm : m_c + 2 ≤ 4000000000000000000) (hl : 0 < l.length) : Cn f_spec_l1Cur_among [.pointer (some ⟨p_c, 0, none⟩), v_l] h fun v h' => ∃ g0 : Int, v = .int .i64 g0 ∧ (g0 ∈ l) ∧ Cur h' p_c t_c (m_c + 2) lo_c ∧ Mod [p_c] h h' := by
 have lc_c := C_c.lt
 have ll_c := C_c.low
 have lm_c := C_c.top
 have lt_l := s_l.lt
 have l63_l := s_l.len63
 refine calls_of r_spec_l1Cur_among ?_
 refine v_seq ?_
 refine v_ops ?_
 refine s_pure (.int .i64 0) (fun _ q => q) ?_
 refine s_nil ?_
 refine p_seqN ?_
 refine v_seq ?_
 refine v_ops ?_
 refine s_pure v_l (fun _ q => q) ?_
 refine s_pure (.pointer (some ⟨p_c, 0, none⟩)) (fun _ q => q) ?_
 refine s_pure v_l (fun _ q => q) ?_
 refine s_pure (.int .i64 (l.length : Int)) (fun _ q => s_l.lenVC q) ?_
 refine s_call [.pointer (some ⟨p_c, 0, none⟩), .int .i64 (l.length : Int)] rfl (spec_l1Cur_pick_ok p_c t_c m_c lo_c (l.length : Int) _ C_c (by omega)) ?_
 rintro _ h2 ⟨g1, rfl, qh2, Ch2, mh2⟩
 have zh2 := mh2.size
 have E3 := (Mod.refl [p_c] h).new mh2 (fun b hb => .inl (by simp at hb; simp [hb]))
 have f4 := (s_l.mod mh2 ap_l)
 have hk5 : (g1).toNat < l.length := (by first | omega | (simp; omega))
 obtain ⟨x6, hx6⟩ : ∃ x, l[(g1).toNat]? = some x := ⟨_, List.getElem?_eq_getElem hk5⟩
 refine s_pure (.pointer (some ⟨sblk v_l, soff v_l + ((g1).toNat) * 1, none⟩)) (fun _ q => f4.idx (k := (g1).toNat) (by omega) hk5 q) ?_
 refine s_load (.int .i64 x6) (fun _ q => f4.load1 hx6 rfl q) ?_
 refine s_pure (.int .i64 x6) (fun _ q => q) ?_
 refine s_nil ?_
 refine p_seqN ?_
 refine v_ret ?_
 refine p_ret [.int .i64 x6] (.int .i64 x6) (fun _ q => q) rfl ?_
 exact ⟨x6, rfl, (by exact List.mem_of_getElem? (by assumption)), (Ch2.le (by omega)), E3⟩

end Go.Proofs.Ytjmcijcdncgaiaa


/- Rows of elements whose slices are read alone. Condition: none. -/
namespace Go.Vc
set_option linter.all false
section
variable {γ β : Type} [Enc γ] [Enc β] [Inn γ β] {h h' : Heap} {v v' : Value} {ps : List γ} {lo : Nat}
structure RdO (h : Heap) (v : Value) (ps : List γ) (lo : Nat) : Prop where
 row : SlO h v ps
 insL : ∀ p ∈ ps, Sl h (Inn.sv p).v (Inn.sig p)
 fr : ∀ b ∈ fpts v ps, lo ≤ b
 off : ∀ p ∈ ps, ∀ b ∈ blks (Inn.sv p).v, b ∉ blks v
theorem RdO.of (D : DeepO h v ps lo) : RdO h v ps lo := ⟨D.row, D.insL, D.fr, D.off⟩
theorem RdO.lt (D : RdO h v ps lo) : ∀ b ∈ fpts v ps, b < h.size := by
  intro b hb
  rcases mem_fpts.1 hb with hb | ⟨p, hp, hb⟩
  · exact D.row.lt b hb
  · exact (D.insL p hp).lt b hb
theorem RdO.mono (D : RdO h v ps lo) {lo' : Nat} (hl : lo' ≤ lo) : RdO h v ps lo' := ⟨D.row, D.insL, fun b hb => Nat.le_trans hl (D.fr b hb), D.off⟩
theorem RdO.keep (D : RdO h v ps lo) (hk : ∀ b ∈ fpts v ps, h'[b]? = h[b]?) : RdO h' v ps lo :=
 ⟨D.row.keep fun b hb => hk b (mem_fpts.2 (.inl hb)), fun p hp => (D.insL p hp).keep fun b hb => hk b (mem_fpts.2 (.inr ⟨p, hp, hb⟩)), D.fr, D.off⟩
theorem RdO.ext (D : RdO h v ps lo) (e : Ext h h') : RdO h' v ps lo := D.keep fun b hb => e.blk b (D.lt b hb)
theorem RdO.mod (D : RdO h v ps lo) {bs : List Nat} (m : Mod bs h h') (hd : ∀ b ∈ fpts v ps, b ∉ bs) : RdO h' v ps lo := D.keep fun b hb => m.blk b (D.lt b hb) (hd b hb)
theorem RdO.nil (h : Heap) (lo : Nat) : RdO h (.slice none 0 0) ([] : List γ) lo := ⟨SlX.nil true h, by simp, by simp [fpts, blks], by simp⟩
theorem RdO.snoc (D : RdO h v ps lo) {e : γ} {own : Bool} (se : SlX own h (Inn.sv e).v (Inn.sig e)) (fe : Fr lo (Inn.sv e).v) (ap : ∀ b ∈ blks (Inn.sv e).v, b ∉ blks v) (hlo : lo ≤ h.size)
    (m : Mod (blks v) h h') (s' : SlO h' v' (ps ++ [e])) (ab : ∀ b ∈ blks v', b ∈ blks v ∨ h.size ≤ b) : RdO h' v' (ps ++ [e]) lo := by
  have hlt := D.lt
  refine ⟨s', fun p hp => ?_, fun b hb => ?_, fun p hp b hb hc => ?_⟩
  · rcases List.mem_append.1 hp with hp | hp
    · exact (D.insL p hp).mod m (D.off p hp)
    · obtain rfl := List.mem_singleton.1 hp
      exact se.toSl.mod m ap
  · rcases mem_fpts.1 hb with hb2 | ⟨p, hp, hb2⟩
    · rcases ab b hb2 with h1 | h1
      · exact D.fr b (mem_fpts.2 (.inl h1))
      · omega
    · rcases List.mem_append.1 hp with hp | hp
      · exact D.fr b (mem_fpts.2 (.inr ⟨p, hp, hb2⟩))
      · obtain rfl := List.mem_singleton.1 hp
        exact fe b hb2
  · rcases List.mem_append.1 hp with hp | hp
    · rcases ab b hc with h1 | h1
      · exact D.off p hp b hb h1
      · have := hlt b (mem_fpts.2 (.inr ⟨p, hp, hb⟩)); omega
    · obtain rfl := List.mem_singleton.1 hp
      rcases ab b hc with h1 | h1
      · exact ap b hb h1
      · have := se.toSl.lt b hb; omega
theorem RdO.set (D : RdO h v ps lo) {e : γ} {k : Nat} {own : Bool} (se : SlX own h (Inn.sv e).v (Inn.sig e)) (fe : Fr lo (Inn.sv e).v) (ap : ∀ b ∈ blks (Inn.sv e).v, b ∉ blks v)
    (m : Mod (blks v) h h') (s' : SlO h' v (ps.set k e)) : RdO h' v (ps.set k e) lo := by
  refine ⟨s', fun p hp => ?_, fun b hb => ?_, fun p hp b hb hc => ?_⟩
  · rcases List.mem_or_eq_of_mem_set hp with hp | rfl
    · exact (D.insL p hp).mod m (D.off p hp)
    · exact se.toSl.mod m ap
  · rcases mem_fpts.1 hb with hb2 | ⟨p, hp, hb2⟩
    · exact D.fr b (mem_fpts.2 (.inl hb2))
    · rcases List.mem_or_eq_of_mem_set hp with hp | rfl
      · exact D.fr b (mem_fpts.2 (.inr ⟨p, hp, hb2⟩))
      · exact fe b hb2
  · rcases List.mem_or_eq_of_mem_set hp with hp | rfl
    · exact D.off p hp b hb hc
    · exact ap b hb hc
/-- a row made anew out of what an old one held, and one more -/
theorem RdO.mid {e : γ} {k lo2 : Nat} {own : Bool} (D : RdO h v ps lo) (se : SlX own h (Inn.sv e).v (Inn.sig e)) (fe : Fr lo (Inn.sv e).v) (s' : SlO h v' (ps.take k ++ [e] ++ ps.drop k)) (f' : Fr lo2 v') (hl : lo ≤ lo2) (hD : ∀ b ∈ fpts v ps, b < lo2) (he : ∀ b ∈ blks (Inn.sv e).v, b < lo2) : RdO h v' (ps.take k ++ [e] ++ ps.drop k) lo := by
  have hin : ∀ p ∈ ps.take k ++ [e] ++ ps.drop k, p ∈ ps ∨ p = e := by
    intro p hp
    rcases List.mem_append.1 hp with hp | hp
    · rcases List.mem_append.1 hp with hp | hp
      · exact .inl (List.mem_of_mem_take hp)
      · exact .inr (List.mem_singleton.1 hp)
    · exact .inl (List.mem_of_mem_drop hp)
  refine ⟨s', fun p hp => ?_, fun b hb => ?_, fun p hp b hb hc => ?_⟩
  · rcases hin p hp with hp | rfl
    · exact D.insL p hp
    · exact se.toSl
  · rcases mem_fpts.1 hb with hb2 | ⟨p, hp, hb2⟩
    · have := f' b hb2; omega
    · rcases hin p hp with hp | rfl
      · exact D.fr b (mem_fpts.2 (.inr ⟨p, hp, hb2⟩))
      · exact fe b hb2
  · have := f' b hc
    rcases hin p hp with hp | rfl
    · have := hD b (mem_fpts.2 (.inr ⟨p, hp, hb⟩)); omega
    · have := he b hb; omega
end
end Go.Vc


/- Where ways come together again. Condition: none. -/
namespace Go.Vc
set_option linter.all false
theorem v_seqM1 {P : Program} {a c : MCode} {Q : Post} {E : Env} {h : Heap} (slots : List (Nat × Value)) (rest : ∀ (R : Env) (h' : Heap), Ext h h' → vc P c Q (R.puts slots) h')
  (k : (∀ (E' : Env) (h' : Heap), AllEq E' slots → Ext h h' → vc P c Q E' h') → vc P (.seq a c) Q E h) : vc P (.seq a c) Q E h :=
 k fun E' h' hs e => by
  have := rest E' h' e
  rwa [puts_self E' _ hs] at this
end Go.Vc

