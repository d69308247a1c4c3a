/- Regions that draw their order, resolved. Condition: none. -/
import Derived.Test.YtbikhpphdhffaaaGreatDoorBase7
namespace Go.Vc

inductive DTree where
  | done
  | split (t : Nat) (r : DTree)
  | take (m : MOper) (r : DTree)
  | only (late : Bool) (m : MOper) (r : DTree)
  | fork (a b : DTree)

structure TakeVC (S : Heap → Prop) (v : Value) (n : Option Nat) (K : Value → Prop) : Prop where
  ofOut ::
  out : ∃ r, (∀ h', S h' → LoadVC h' v n (· = r)) ∧ K r
structure ForkVC (A B : Prop) : Prop where
  ofOut ::
  out : A ∧ B

def vcDraw (P : Program) (S : Heap → Prop) : DTree → Env → Heap → (Env → Heap → Prop) → Prop
  | .done, E, h, K => K E h
  | .split t l, E, h, K => SplitVC (E t) (fun b => vcDraw P S l (E.put t (.bool b)) h K) (vcDraw P S l E h K)
  | .take m l, E, h, K => runG E m.guard (match m.op with
      | .pure p => p.wp (ev E) fun v => vcDraw P S l (E.putO m.dst v) h K
      | .load n x => TakeVC S (ev E x) n fun v => vcDraw P S l (E.putO m.dst v) h K
      | .eff _ => False) (vcDraw P S l (E.putO m.dst undef) h K)
  | .only late m l, E, h, K => runG E m.guard (match m.op with
      | .pure p => p.wp (ev E) fun v => vcDraw P S l (E.putO m.dst v) h K
      | .load n x => LoadVC h (ev E x) n fun v => vcDraw P S l (E.putO m.dst v) h K
      | .eff e => match late with
        | true => e.wp P (ev E) h fun v h' => vcDraw P S l (E.putO m.dst v) h' K
        | false => e.wp P (ev E) h fun v h' => S h' ∧ vcDraw P S l (E.putO m.dst v) h' K) (vcDraw P S l (E.putO m.dst undef) h K)
  | .fork a b, E, h, K => ForkVC (vcDraw P S a E h K) (vcDraw P S b E h K)

def isPure (P : Program) (ops : Array Oper) (i : Nat) : Bool := match (ops[i]?).bind fun o => resolveOp P o.op with
  | some (.pure _) => true
  | _ => false
def isLoad (P : Program) (ops : Array Oper) (i : Nat) : Bool := match (ops[i]?).bind fun o => resolveOp P o.op with
  | some (.load _ _) => true
  | _ => false

def quietOf (P : Program) (ops : Array Oper) (i : Nat) : Bool := isPure P ops i || isLoad P ops i
def loadsD (P : Program) (ops : Array Oper) : List Nat := (List.range ops.size).filter fun i => isLoad P ops i
/-- An operation that is not quiet and that waits for all loads. -/
def lateOf (P : Program) (ops : Array Oper) (held : Bool) (j : Nat) : Bool := !quietOf P ops j && (!held || (loadsD P ops).all fun i => reach ops ops.size j i)

/-- All that is not quiet waits for i. -/
def firmD (P : Program) (ops : Array Oper) (i : Nat) : Bool := (List.range ops.size).all fun j => quietOf P ops j || reach ops ops.size j i
def firmOf (P : Program) (ops : Array Oper) (i : Nat) : MOp → Bool
  | .load _ _ => firmD P ops i
  | _ => false
def okD (tk : Bool) (m : MOp) (lt past wt rdy fr fm : Bool) : Bool := match tk, m with
  | true, .pure _ => rdy && fr
  | true, .load _ _ => rdy && fr && (fm || (!past && wt))
  | true, .eff _ => false
  | false, .eff _ => lt || !past
  | false, _ => true
def pastD (tk : Bool) (m : MOp) (lt past : Bool) : Bool := match tk, m with
  | false, .eff _ => past || lt
  | _, _ => past
def stepD (tk lt fm : Bool) (m : MOper) (r : DTree) : DTree := match tk with
  | true => match fm with
    | true => .only false m r
    | false => .take m r
  | false => .only lt m r
def waitsD (ops : Array Oper) (late : Nat → Bool) (i : Nat) : Bool := (List.range ops.size).all fun j => !late j || reach ops ops.size j i

def nodeT (P : Program) (n : Nat) (ops : Array Oper) (late : Nat → Bool) (listed : Array Bool) (past : Bool) (seen : List Nat) (rest : Array Bool → Bool → List Nat → Option DTree) (tk : Bool) (i : Nat) : Option DTree :=
  (ops[i]?).bind fun o => (resOper P n ops o).bind fun m =>
    if okD tk m.op (late i) past (waitsD ops late i) ((Region.ready .any ops listed).contains i) (Region.free .any ops listed i) (firmOf P ops i m.op) then
      match m.guard with
      | none => (rest (listed.setIfInBounds i true) (pastD tk m.op (late i) past) seen).map (stepD tk (late i) (firmOf P ops i m.op) m)
      | some (t, _) => if seen.contains t then (rest (listed.setIfInBounds i true) (pastD tk m.op (late i) past) seen).map (stepD tk (late i) (firmOf P ops i m.op) m)
        else (rest (listed.setIfInBounds i true) (pastD tk m.op (late i) past) (t :: seen)).map fun r => .split t (stepD tk (late i) (firmOf P ops i m.op) m r)
    else none
def forkT (f : Nat → Option DTree) : List Nat → Option DTree
  | [] => none
  | [i] => f i
  | i :: r => (f i).bind fun a => (forkT f r).map (.fork a)

def buildT (P : Program) (n : Nat) (ops : Array Oper) (late : Nat → Bool) (held : Bool) : Nat → Array Bool → Bool → List Nat → Option DTree
  | 0, listed, _, _ => if (Region.ready .any ops listed).isEmpty then some .done else none
  | fuel + 1, listed, past, seen =>
    let rs := Region.ready .any ops listed
    if rs.isEmpty then some .done else
    match rs.find? fun i => isPure P ops i && Region.free .any ops listed i with
    | some i => nodeT P n ops late listed past seen (buildT P n ops late held fuel) true i
    | none => match rs.find? fun i => isLoad P ops i && Region.free .any ops listed i && firmD P ops i with
    | some i => nodeT P n ops late listed past seen (buildT P n ops late held fuel) true i
    | none => match (if held && decide (1 < rs.length) && !past then rs.find? fun i => isLoad P ops i && Region.free .any ops listed i else none) with
      | some i => nodeT P n ops late listed past seen (buildT P n ops late held fuel) true i
      | none => forkT (nodeT P n ops late listed past seen (buildT P n ops late held fuel) false) rs

section
variable {P : Program} {n : Nat} {ops : Array Oper} {Q : Exit → Act → World → Prop} {S : Heap → Prop} {late : Nat → Bool} {K : Env → Heap → Prop}

/-- 'all late ones wait for i'. -/
theorem late_waits {i : Nat} (h : waitsD ops late i = true) (j : Nat) (oj : Oper) (hj : ops[j]? = some oj) (hno : reach ops ops.size j i = false) : late j = false := by
  have h1 := List.all_eq_true.1 h j (List.mem_range.2 (Array.getElem?_eq_some_iff.1 hj).1)
  rw [hno] at h1
  simpa using h1

theorem load_gives {P : Program} {o : Oper} {nn : Option Nat} {x : Operand} (hr : resolveOp P o.op = some (.load nn x)) {ρ : Operand → Value} {r : Value} (w : World) (h : LoadVC w.heap (ρ x) nn (· = r)) :
    (execOp ρ o).run P w = .ok (.value r) w := by
  obtain ⟨v, rfl, h2⟩ := load_sound hr ρ w _ h
  exact h2

def nodeGoal (P : Program) (ops : Array Oper) (Q : Exit → Act → World → Prop) (S : Heap → Prop) (late : Nat → Bool) (fuel : Nat) (listed : Array Bool) (i : Nat) (a : Act) (w : World) : Bool → Prop
  | true => anyL P ops Q (fun w => S w.heap) (quietOf P ops) late (fuel + 1) listed a w
  | false => wpOp P ops Q i (fun a' w' => Behind (quietOf P ops) late (fun w => S w.heap) i w w' ∧ anyL P ops Q (fun w => S w.heap) (quietOf P ops) late fuel (listed.setIfInBounds i true) a' w') a w

theorem nodeT_sound (hsel : Region.noSelect ops = true) (w0 : World) (hQp : ∀ c a w, Q (.panic c) a w → False) {listed : Array Bool} {past : Bool} {seen : List Nat} {rest : Array Bool → Bool → List Nat → Option DTree} {fuel : Nat}
    (go : ∀ (listed : Array Bool) (past : Bool) (seen : List Nat) (t : DTree), rest listed past seen = some t → ∀ (E : Env) (a : Act) (w : World), ClosedL ops listed → Rel n E a → Sim w0 w → (past = false → S w.heap) → vcDraw P S t E w.heap K →
      anyL P ops Q (fun w => S w.heap) (quietOf P ops) late fuel listed a w) {tk : Bool} {i : Nat} {t : DTree} (hb : nodeT P n ops late listed past seen rest tk i = some t)
    (hcl : ClosedL ops listed) (hrdy : i ∈ Region.ready .any ops listed) (E : Env) (a : Act) (w : World) (hrel : Rel n E a) (hs : Sim w0 w) (hS : past = false → S w.heap) (hk : vcDraw P S t E w.heap K) :
    nodeGoal P ops Q S late fuel listed i a w tk := by
  simp only [nodeT, Option.bind_eq_some_iff] at hb
  obtain ⟨o, ho, m, hm, hb⟩ := hb
  split at hb
  rotate_left
  · simp at hb
  rename_i hok
  have step : ∀ (seen' : List Nat) (t' : DTree), rest (listed.setIfInBounds i true) (pastD tk m.op (late i) past) seen' = some t' → ∀ E : Env, Rel n E a → vcDraw P S (stepD tk (late i) (firmOf P ops i m.op) m t') E w.heap K →
      nodeGoal P ops Q S late fuel listed i a w tk := by
    intro seen' t' hb' E hrel hk
    have go := fun E a w => go _ _ seen' t' hb' E a w (closed_set hcl hrdy)
    have hquiet : quietOf P ops i = match m.op with | .eff _ => false | _ => true := by
      have hop : resolveOp P o.op = some m.op := by
        unfold resOper at hm
        split at hm
        · simp only [Option.bind_eq_some_iff] at hm
          obtain ⟨mo, hmo, hm⟩ := hm
          split at hm
          · simp at hm; subst hm; exact hmo
          · split at hm
            · split at hm
              · simp at hm; subst hm; exact hmo
              · simp at hm
            · simp at hm
        · simp at hm
      simp only [quietOf, isPure, isLoad, ho, Option.bind_some, hop]
      cases m.op <;> rfl
    cases tk
    · -- carried out here
      simp only [stepD, vcDraw] at hk
      obtain ⟨hd, hdst, hop, hor⟩ := runG_sound hm hrel hk
      have hpast : pastD false m.op (late i) past = false → past = false := fun h => by
        cases hmo : m.op <;> rw [hmo] at h <;> simp [pastD] at h <;> simp [h]
      simp only [nodeGoal]
      unfold wpOp
      simp only [ho]
      rw [hdst] at hor
      rcases hor with ⟨hw, hrun⟩ | ⟨hw, hskip⟩
      · rw [if_pos hw]
        left
        cases hmo : m.op with
        | pure p =>
          rw [hmo] at hrun hop hquiet
          obtain ⟨v, h1, h2⟩ := pure_sound hop E _ hrun
          unfold Oper.wp
          rw [hrel.eval, h2 w, Oper.upon_value]
          exact ⟨⟨fun _ => rfl, fun h => by rw [hquiet] at h; cases h⟩, go _ _ _ (hrel.put hd v) hs (fun hp => hS (hpast hp)) h1⟩
        | load nn x =>
          rw [hmo] at hrun hop hquiet
          obtain ⟨v, h1, h2⟩ := load_sound hop (ev E) w _ hrun
          unfold Oper.wp
          rw [hrel.eval, h2, Oper.upon_value]
          exact ⟨⟨fun _ => rfl, fun h => by rw [hquiet] at h; cases h⟩, go _ _ _ (hrel.put hd v) hs (fun hp => hS (hpast hp)) h1⟩
        | eff e =>
          rw [hmo] at hrun hop hquiet
          cases hl : late i
          · rw [hl] at hrun
            refine (eff_sound hop (ev E) (fun _ => rfl) w _ hrun).wp hrel.eval ?_
            rintro v' w' hs' hk'
            exact ⟨⟨fun h => (by rw [hquiet] at h; cases h), fun _ _ => hk'.1⟩, go _ _ _ (hrel.put hd v') (hs.trans hs') (fun _ => hk'.1) hk'.2⟩
          · rw [hl] at hrun
            refine (eff_sound hop (ev E) (fun _ => rfl) w _ hrun).wp hrel.eval ?_
            intro v' w' hs' hk'
            refine ⟨⟨fun h => (by rw [hquiet] at h; cases h), fun _ h => (by rw [hl] at h; cases h)⟩, go _ _ _ (hrel.put hd v') (hs.trans hs') (fun h => ?_) hk'⟩
            rw [hmo, hl] at h
            simp [pastD] at h
      · rw [if_neg (by simp [hw])]
        refine ⟨⟨fun _ => rfl, fun hq hl => hS ?_⟩, go _ _ _ (hrel.put hd undef) hs (fun hp => hS (hpast hp)) hskip⟩
        rw [hquiet] at hq
        cases hmo : m.op <;> rw [hmo] at hok hq <;> simp only [okD, Bool.or_eq_true, Bool.not_eq_true'] at hok hq
        · cases hq
        · cases hq
        · exact hok.resolve_left (by simp [hl])
    · -- taken first
      have hrdf : i ∈ Region.ready .any ops listed ∧ Region.free .any ops listed i = true ∧ quietOf P ops i = true := by
        rw [hquiet]
        cases hmo : m.op <;> rw [hmo] at hok <;> simp only [okD, Bool.and_eq_true] at hok
        · exact ⟨by simpa using hok.1, hok.2, rfl⟩
        · exact ⟨by simpa using hok.1.1, hok.1.2, rfl⟩
        · cases hok
      obtain ⟨hrd, hfr, hqi⟩ := hrdf
      have hpast : pastD true m.op (late i) past = past := by cases m.op <;> rfl
      rw [hpast] at go
      have take : ∀ (dst : Option Nat), o.dst = dst → (∀ k, dst = some k → k < n) → ∀ (v : Value) (T : World → Prop), YieldsIf P ops T o v a → T w →
          (∀ j oj, ops[j]? = some oj → j ≠ i → reach ops ops.size j i = false → ∀ w w', T w → Behind (quietOf P ops) late (fun w => S w.heap) j w w' → T w') →
          vcDraw P S t' (E.putO dst v) w.heap K → anyL P ops Q (fun w => S w.heap) (quietOf P ops) late (fuel + 1) listed a w := by
        intro dst hdst hd v T hy hTw hT hk'
        subst hdst
        exact anyL_take ho hsel (fun c a w h => (hQp c _ w h).elim) hqi hT _ listed a w hcl hfr hrd hy hTw (go _ _ _ (hrel.put hd v) hs hS hk')
      simp only [nodeGoal]
      cases hfm : firmOf P ops i m.op
      · simp only [stepD, hfm, vcDraw] at hk
        obtain ⟨hd, hdst, hop, hor⟩ := runG_sound hm hrel hk
        rw [hdst] at hor
        have hd' : ∀ k, o.dst = some k → k < n := hd
        have takeT : ∀ v : Value, YieldsIf P ops (fun _ => True) o v a → vcDraw P S t' (E.putO o.dst v) w.heap K →
            anyL P ops Q (fun w => S w.heap) (quietOf P ops) late (fuel + 1) listed a w := fun v hy hk' =>
          take _ rfl hd' v _ hy trivial (fun _ _ _ _ _ _ _ _ _ => trivial) hk'
        rcases hor with ⟨hw, hrun⟩ | ⟨hw, hskip⟩
        · cases hmo : m.op with
          | pure p =>
            rw [hmo] at hrun hop
            obtain ⟨v, h1, h2⟩ := pure_sound hop E _ hrun
            exact takeT v (.inl ⟨hw, fun w _ => by rw [hrel.eval]; exact h2 w⟩) h1
          | load nn x =>
            rw [hmo] at hrun hop hok hfm
            simp only [okD, hfm, Bool.and_eq_true, Bool.false_or, Bool.not_eq_true'] at hok
            obtain ⟨v, h1, h2⟩ := hrun
            refine take _ rfl hd' v (fun w => S w.heap) (.inl ⟨hw, fun w hw' => by rw [hrel.eval]; exact load_gives hop w (h1 _ hw')⟩) (hS hok.2.1) ?_ h2
            intro j oj hj _ hno w w' hT hb
            cases hq : quietOf P ops j
            · exact hb.2 hq (late_waits hok.2.2 j oj hj hno)
            · rw [hb.1 hq]; exact hT
          | eff e => rw [hmo] at hrun; exact hrun.elim
        · exact takeT undef (.inr ⟨hw, rfl⟩) hskip
      · simp only [stepD, hfm, vcDraw] at hk
        obtain ⟨hd, hdst, hop, hor⟩ := runG_sound hm hrel hk
        rw [hdst] at hor
        have hd' : ∀ k, o.dst = some k → k < n := hd
        cases hmo : m.op with
        | pure p => rw [hmo] at hfm; cases hfm
        | eff e => rw [hmo] at hfm; cases hfm
        | load nn x =>
          rw [hmo] at hfm hor hop
          have hall : ∀ j oj, ops[j]? = some oj → j ≠ i → reach ops ops.size j i = false → ∀ w1 w2, w1 = w → Behind (quietOf P ops) late (fun w => S w.heap) j w1 w2 → w2 = w := by
            intro j oj hj _ hno w1 w2 h1 hb
            have hf := List.all_eq_true.1 hfm j (List.mem_range.2 (Array.getElem?_eq_some_iff.1 hj).1)
            rw [hno, Bool.or_false] at hf
            rw [hb.1 hf]; exact h1
          rcases hor with ⟨hw, hrun⟩ | ⟨hw, hskip⟩
          · obtain ⟨v, h1, h2⟩ := load_sound hop (ev E) w _ hrun
            refine take _ rfl hd' v (fun w1 => w1 = w) (.inl ⟨hw, fun w1 hw1 => by subst hw1; rw [hrel.eval]; exact h2⟩) rfl hall h1
          · exact take _ rfl hd' undef (fun w1 => w1 = w) (.inr ⟨hw, rfl⟩) rfl hall hskip
  split at hb
  · simp only [Option.map_eq_some_iff] at hb
    obtain ⟨t', hb', rfl⟩ := hb
    exact step _ _ hb' E hrel hk
  · split at hb
    · simp only [Option.map_eq_some_iff] at hb
      obtain ⟨t', hb', rfl⟩ := hb
      exact step _ _ hb' E hrel hk
    · simp only [Option.map_eq_some_iff] at hb
      obtain ⟨t', hb', rfl⟩ := hb
      simp only [vcDraw] at hk
      obtain ⟨b, hbv, ht, hf⟩ | ⟨_, hk⟩ := hk
      rotate_left
      · exact step _ _ hb' E hrel hk
      cases b
      · have := hf rfl
        rw [put_self _ _ _ hbv] at this
        exact step _ _ hb' E hrel this
      · have := ht rfl
        rw [put_self _ _ _ hbv] at this
        exact step _ _ hb' E hrel this

theorem forkT_sound {f : Nat → Option DTree} {E : Env} {h : Heap} : ∀ (l : List Nat) (t : DTree), forkT f l = some t → vcDraw P S t E h K → ∀ i ∈ l, ∃ t', f i = some t' ∧ vcDraw P S t' E h K
  | [], _, hf, _ => by simp [forkT] at hf
  | [i], t, hf, hk => fun j hj => by
    obtain rfl : j = i := by simpa using hj
    exact ⟨t, hf, hk⟩
  | i :: k :: r, t, hf, hk => fun j hj => by
    simp only [forkT, Option.bind_eq_some_iff, Option.map_eq_some_iff] at hf
    obtain ⟨x, hx, y, hy, rfl⟩ := hf
    obtain ⟨hk1, hk2⟩ := hk
    rcases List.mem_cons.1 hj with rfl | hj
    · exact ⟨x, hx, hk1⟩
    · exact forkT_sound (k :: r) y hy hk2 j hj

theorem draw_sound {held : Bool} (hsel : Region.noSelect ops = true) (w0 : World) (hQ : ∀ E a w, Rel n E a → Sim w0 w → K E w.heap → Q .normal a w) (hQp : ∀ c a w, Q (.panic c) a w → False) :
    ∀ (fuel : Nat) (listed : Array Bool) (past : Bool) (seen : List Nat) (t : DTree), buildT P n ops late held fuel listed past seen = some t →
      ∀ (E : Env) (a : Act) (w : World), ClosedL ops listed → Rel n E a → Sim w0 w → (past = false → S w.heap) → vcDraw P S t E w.heap K → anyL P ops Q (fun w => S w.heap) (quietOf P ops) late fuel listed a w := by
  intro fuel
  induction fuel with
  | zero =>
    intro listed past seen t hb E a w hcl hrel hs hS hk
    simp only [buildT] at hb
    split at hb
    · rename_i hr
      simp at hb; subst hb
      exact ⟨by simpa using hr, hQ E a w hrel hs hk⟩
    · simp at hb
  | succ fuel ih =>
    intro listed past seen t hb E a w hcl hrel hs hS hk
    simp only [buildT] at hb
    split at hb
    · rename_i hr
      simp at hb; subst hb
      have hr' : Region.ready .any ops listed = [] := by simpa using hr
      exact ⟨fun _ => hQ E a w hrel hs hk, fun i hi => by rw [hr'] at hi; cases hi⟩
    · rename_i hne
      have hne' : Region.ready .any ops listed ≠ [] := by simpa using hne
      split at hb
      · rename_i _ hfd
        exact nodeT_sound hsel w0 hQp ih (tk := true) hb hcl (List.mem_of_find?_eq_some hfd) E a w hrel hs hS hk
      · split at hb
        · rename_i _ hfd
          exact nodeT_sound hsel w0 hQp ih (tk := true) hb hcl (List.mem_of_find?_eq_some hfd) E a w hrel hs hS hk
        split at hb
        · rename_i _ hfd
          split at hfd
          · exact nodeT_sound hsel w0 hQp ih (tk := true) hb hcl (List.mem_of_find?_eq_some hfd) E a w hrel hs hS hk
          · cases hfd
        · refine ⟨fun h => absurd h hne', fun i hi => ?_⟩
          obtain ⟨t', hf, hk'⟩ := forkT_sound _ t hb hk i hi
          exact nodeT_sound hsel w0 hQp ih (tk := false) hf hcl hi E a w hrel hs hS hk'
end
end Go.Vc
