/- Regions: those in the order of the text, and those that draw their order. Condition: none. -/
import Derived.Test.YtbikhpphdhffaaaGreatDoorBase6
namespace Go.Vc

structure MOper where
  dst : Option Nat
  op : MOp
  guard : Option (Nat × Bool)

inductive MStep where
  | split (t : Nat)
  | op (m : MOper)

def runG (E : Env) (g : Option (Nat × Bool)) (run skip : Prop) : Prop := match g with
  | none => run
  | some (t, want) => match E t with
    | .bool true => (match want with | true => run | false => skip)
    | .bool false => (match want with | true => skip | false => run)
    | _ => skip

def vcOps (P : Program) : List MStep → Env → Heap → (Env → Heap → Prop) → Prop
  | [], E, h, K => K E h
  | .split t :: l, E, h, K => SplitVC (E t) (fun b => vcOps P l (E.put t (.bool b)) h K) (vcOps P l E h K)
  | .op m :: l, E, h, K => runG E m.guard (m.op.wp P (ev E) h fun v h' => vcOps P l (E.putO m.dst v) h' K) (vcOps P l (E.putO m.dst undef) h K)

def dstOk (n : Nat) : Option Nat → Bool
  | some d => decide (d < n)
  | none => true
def resOper (P : Program) (n : Nat) (ops : Array Oper) (o : Oper) : Option MOper :=
  if dstOk n o.dst = true then
    (resolveOp P o.op).bind fun m => match o.guard with
      | none => some ⟨o.dst, m, none⟩
      | some (j, want) => match (ops[j]?).bind (·.dst) with
        | some t => if t < n then some ⟨o.dst, m, some (t, want)⟩ else none
        | none => none
  else none

def resList (P : Program) (n : Nat) (ops : Array Oper) : List Oper → List Nat → Option (List MStep)
  | [], _ => some []
  | o :: l, seen => (resOper P n ops o).bind fun m => match m.guard with
    | none => (resList P n ops l seen).map (.op m :: ·)
    | some (t, _) => if seen.contains t then (resList P n ops l seen).map (.op m :: ·) else (resList P n ops l (t :: seen)).map fun r => .split t :: .op m :: r

theorem put_self (E : Env) (t : Nat) (v : Value) (h : E t = v) : E.put t v = E := by
  funext k
  simp only [Env.put]
  cases hb : Nat.beq k t
  · rfl
  · have := Nat.eq_of_beq_eq_true hb; subst this; simp [h]

theorem yielded_rel {n : Nat} {E : Env} {a : Act} (h : Rel n E a) {ops : Array Oper} {j t : Nat} (hj : (ops[j]?).bind (·.dst) = some t) (ht : t < n) :
    yielded ops a.tmps j = match E t with | .bool b => some b | _ => none := by
  unfold yielded
  have h1 := h.get t
  have h2 := h.size
  have h3 : a.tmps[t]? = some (E t) := by
    rw [← h1, Array.getD_eq_getD_getElem?]
    rw [getElem?_pos a.tmps t (by omega)]
    rfl
  rw [hj]
  simp only [Option.bind_some, h3]
  cases E t <;> rfl

/-- What 'runG' shows of one operation. -/
theorem runG_sound {P : Program} {n : Nat} {ops : Array Oper} {o : Oper} {m : MOper} (hr : resOper P n ops o = some m) {E : Env} {a : Act} (hrel : Rel n E a) {run skip : Prop} (hk : runG E m.guard run skip) :
    (∀ k, o.dst = some k → k < n) ∧ m.dst = o.dst ∧ resolveOp P o.op = some m.op ∧ ((Region.wanted o (yielded ops a.tmps) = true ∧ run) ∨ (Region.wanted o (yielded ops a.tmps) = false ∧ skip)) := by
  unfold resOper at hr
  split at hr
  · rename_i hd
    simp only [Option.bind_eq_some_iff] at hr
    obtain ⟨mo, hmo, hr⟩ := hr
    have hd' : ∀ k, o.dst = some k → k < n := fun k hk => by simpa [hk, dstOk] using hd
    split at hr
    · rename_i hg
      simp at hr; subst hr
      exact ⟨hd', rfl, hmo, .inl ⟨by simp [Region.wanted, hg], hk⟩⟩
    · rename_i j want hg
      split at hr
      · rename_i t hj
        split at hr
        · rename_i ht
          simp at hr; subst hr
          refine ⟨hd', rfl, hmo, ?_⟩
          have hy := yielded_rel hrel hj ht
          simp only [runG] at hk
          simp only [Region.wanted, hg, hy]
          split at hk
          · rename_i he; cases want <;> simp_all
          · rename_i he; cases want <;> simp_all
          · rename_i n1 n2
            refine .inr ⟨?_, hk⟩
            split
            · rename_i b hb
              cases b
              · exact absurd hb n2
              · exact absurd hb n1
            · rfl
        · simp at hr
      · simp at hr
  · simp at hr

theorem op_sound {P : Program} {o : Oper} {m : MOp} (hr : resolveOp P o.op = some m) {E : Env} (w : World) (K : Value → Heap → Prop) (hk : m.wp P (ev E) w.heap K) : Does P (ev E) o w K := by
  cases m with
  | pure p =>
    have hk : p.wp (ev E) (fun v => K v w.heap) := hk
    obtain ⟨v, h1, h2⟩ := pure_sound hr E _ hk
    exact .inl ⟨v, w, h2 w, Sim.refl w, h1⟩
  | load nn x =>
    have hk : LoadVC w.heap (ev E x) nn (fun v => K v w.heap) := hk
    obtain ⟨v, h1, h2⟩ := load_sound hr (ev E) w _ hk
    exact .inl ⟨v, w, h2, Sim.refl w, h1⟩
  | eff e => exact eff_sound hr (ev E) (fun _ => rfl) w K hk

theorem ops_sound {P : Program} {n : Nat} {ops : Array Oper} {Q : Exit → Act → World → Prop} {K : Env → Heap → Prop} (w0 : World) (hQ : ∀ E a w, Rel n E a → Sim w0 w → K E w.heap → Q .normal a w) :
    ∀ (l : List Oper) (seen : List Nat) (steps : List MStep), resList P n ops l seen = some steps → ∀ (E : Env) (a : Act) (w : World), Rel n E a → Sim w0 w → vcOps P steps E w.heap K → wpList P ops Q l a w
  | [], seen, steps, hr, E, a, w, hrel, hs, hk => by
    simp [resList] at hr; subst hr
    exact hQ E a w hrel hs hk
  | o :: l, seen, steps, hr, E, a, w, hrel, hs, hk => by
    simp only [resList, Option.bind_eq_some_iff] at hr
    obtain ⟨m, hm, hr⟩ := hr
    have step : ∀ (seen' : List Nat) (steps' : List MStep), resList P n ops l seen' = some steps' → ∀ E : Env, Rel n E a → vcOps P (.op m :: steps') E w.heap K → wpList P ops Q (o :: l) a w := by
      intro seen' steps' hr' E hrel hk
      simp only [vcOps] at hk
      obtain ⟨hd, hdst, hop, hor⟩ := runG_sound hm hrel hk
      simp only [wpList]
      rcases hor with ⟨hw, hrun⟩ | ⟨hw, hskip⟩
      · rw [if_pos hw]
        refine .inl ((op_sound hop w _ hrun).wp hrel.eval fun v w' hs' hk' => ?_)
        rw [hdst] at hk'
        exact ops_sound w0 hQ l seen' steps' hr' _ _ _ (hrel.put hd v) (hs.trans hs') hk'
      · rw [if_neg (by simp [hw])]
        rw [hdst] at hskip
        exact ops_sound w0 hQ l seen' steps' hr' _ _ _ (hrel.put hd undef) hs hskip
    split at hr
    · simp only [Option.map_eq_some_iff] at hr
      obtain ⟨steps', hr', rfl⟩ := hr
      exact step _ _ hr' E hrel hk
    · split at hr
      · simp only [Option.map_eq_some_iff] at hr
        obtain ⟨steps', hr', rfl⟩ := hr
        exact step _ _ hr' E hrel hk
      · simp only [Option.map_eq_some_iff] at hr
        obtain ⟨steps', hr', rfl⟩ := hr
        simp only [vcOps] at hk
        obtain ⟨b, hb, ht, hf⟩ | ⟨_, hk⟩ := hk
        rotate_left
        · exact step _ _ hr' E hrel hk
        cases b
        · have := hf rfl
          rw [put_self _ _ _ hb] at this
          exact step _ _ hr' E hrel this
        · have := ht rfl
          rw [put_self _ _ _ hb] at this
          exact step _ _ hr' E hrel this

/-! ### Regions that draw their order -/
section
variable {P : Program} {ops : Array Oper} {Q : Exit → Act → World → Prop} {S : World → Prop} {quiet late : Nat → Bool}

/-- What is known behind operation i: a quiet one leaves the world alone; behind another S holds, but for the late ones. -/
def Behind (quiet late : Nat → Bool) (S : World → Prop) (i : Nat) (w w' : World) : Prop := (quiet i = true → w' = w) ∧ (quiet i = false → late i = false → S w')

/-- Whatever order is picked. -/
def anyL (P : Program) (ops : Array Oper) (Q : Exit → Act → World → Prop) (S : World → Prop) (quiet late : Nat → Bool) : Nat → Array Bool → Act → World → Prop
  | 0, listed, a, w => Region.ready .any ops listed = [] ∧ Q .normal a w
  | fuel + 1, listed, a, w => (Region.ready .any ops listed = [] → Q .normal a w) ∧
    ∀ i ∈ Region.ready .any ops listed, wpOp P ops Q i (fun a' w' => Behind quiet late S i w w' ∧ anyL P ops Q S quiet late fuel (listed.setIfInBounds i true) a' w') a w

theorem anyL_any : ∀ (fuel : Nat) (listed : Array Bool) (a : Act) (w : World), anyL P ops Q S quiet late fuel listed a w → wpAny P .any ops Q fuel listed a w
  | 0, _, _, _, h => h
  | fuel + 1, _, _, _, h => ⟨h.1, fun i hi => wpOp_mono (fun a' w' h' => anyL_any fuel _ a' w' h'.2) (h.2 i hi)⟩

/-- For each operation, as the bits of a number, what it comes behind, by one bond or more. -/
def maskOf (ms : List Nat) (o : Oper) : Nat := o.after.toList.foldl (fun m e => if Region.binds .any e then m ||| (1 <<< e.on) ||| ms.getD e.on 0 else m) 0
def masksL (ops : List Oper) : List Nat := ops.foldl (fun ms o => ms ++ [maskOf ms o]) []
def reach (ops : Array Oper) (_ : Nat) (j i : Nat) : Bool := ((masksL ops.toList).getD j 0).testBit i
/-- What is listed has all listed that it waits for. -/
def ClosedL (ops : Array Oper) (listed : Array Bool) : Prop := ∀ (k : Nat) (ok : Oper), ops[k]? = some ok → listed.getD k false = true → ∀ e ∈ ok.after, Region.binds .any e = true → listed.getD e.on false = true
theorem closed_start (n : Nat) : ClosedL ops (Array.replicate n false) := by
  intro k ok hk hl
  exfalso
  by_cases h : k < n
  · simp [Array.getD, h] at hl
  · simp [Array.getD, h] at hl
theorem closed_set {listed : Array Bool} (hc : ClosedL ops listed) {j : Nat} (hj : j ∈ Region.ready .any ops listed) : ClosedL ops (listed.setIfInBounds j true) := by
  obtain ⟨_, oj, hoj, hall⟩ := mem_ready.1 hj
  intro k ok hk hl e he hb
  refine getD_set_true ?_
  by_cases h : k = j
  · subst h
    rw [hoj] at hk
    obtain rfl := Option.some.inj hk
    exact hall e he hb
  · rw [getD_set_ne false (Ne.symm h)] at hl
    exact hc k ok hk hl e he hb
theorem one_bit {a i : Nat} (h : (1 <<< a).testBit i = true) : a = i := by
  rw [Nat.testBit_shiftLeft] at h
  simp only [Bool.and_eq_true, decide_eq_true_eq] at h
  have h2 := h.2
  by_cases e : i - a = 0
  · omega
  · have h3 : (1 : Nat).testBit (i - a) = false := by
      obtain ⟨k, hk⟩ : ∃ k, i - a = k + 1 := ⟨i - a - 1, by omega⟩
      rw [hk, Nat.testBit_succ]; simp
    rw [h3] at h2; cases h2
theorem mask_bit (ms : List Nat) {i : Nat} : ∀ (l : List Edge) (m : Nat), (l.foldl (fun m e => if Region.binds .any e then m ||| (1 <<< e.on) ||| ms.getD e.on 0 else m) m).testBit i = true → m.testBit i = true ∨ ∃ e ∈ l, Region.binds .any e = true ∧ (e.on = i ∨ (ms.getD e.on 0).testBit i = true)
  | [], m, h => .inl h
  | e :: l, m, h => by
    rw [List.foldl_cons] at h
    rcases mask_bit ms l _ h with h1 | ⟨e', he, hb⟩
    · split at h1
      · rename_i hb
        rw [Nat.testBit_or, Nat.testBit_or] at h1
        simp only [Bool.or_eq_true] at h1
        rcases h1 with (h1 | h1) | h1
        · exact .inl h1
        · exact .inr ⟨e, List.mem_cons_self .., hb, .inl (one_bit h1)⟩
        · exact .inr ⟨e, List.mem_cons_self .., hb, .inr h1⟩
      · exact .inl h1
    · exact .inr ⟨e', List.mem_cons_of_mem _ he, hb⟩
theorem reach_listed {listed : Array Bool} (hc : ClosedL ops listed) {i : Nat} (f j : Nat) (oj : Oper) (hj : ops[j]? = some oj) (hall : ∀ e ∈ oj.after, Region.binds .any e = true → listed.getD e.on false = true) (h : reach ops f j i = true) : listed.getD i false = true := by
  have key : ∀ (rest pre : List Oper) (ms : List Nat), ops.toList = pre ++ rest → ms.length = pre.length →
      (∀ j oj, j < ms.length → ops[j]? = some oj → (∀ e ∈ oj.after, Region.binds .any e = true → listed.getD e.on false = true) → (ms.getD j 0).testBit i = true → listed.getD i false = true) →
      ∀ j oj, ops[j]? = some oj → (∀ e ∈ oj.after, Region.binds .any e = true → listed.getD e.on false = true) → ((rest.foldl (fun ms o => ms ++ [maskOf ms o]) ms).getD j 0).testBit i = true → listed.getD i false = true := by
    intro rest
    induction rest with
    | nil =>
      intro pre ms hp hl hg j oj hj hall h
      rw [List.foldl_nil] at h
      by_cases hlt : j < ms.length
      · exact hg j oj hlt hj hall h
      · simp [List.getD_eq_getElem?_getD, List.getElem?_eq_none (Nat.le_of_not_lt hlt)] at h
    | cons o rest ih =>
      intro pre ms hp hl hg j oj hj hall h
      rw [List.foldl_cons] at h
      refine ih (pre ++ [o]) (ms ++ [maskOf ms o]) (by simp [hp]) (by simp [hl]) ?_ j oj hj hall h
      intro j oj hlt hj hall h
      by_cases hjl : j < ms.length
      · rw [List.getD_eq_getElem?_getD, List.getElem?_append_left hjl, ← List.getD_eq_getElem?_getD] at h
        exact hg j oj hjl hj hall h
      · have hje : j = ms.length := by simp at hlt; omega
        subst hje
        have ho : oj = o := by
          have h1 : ops.toList[ms.length]? = some o := by rw [hp, hl]; simp
          rw [Array.getElem?_toList, hj] at h1
          exact Option.some.inj h1
        subst ho
        rw [List.getD_eq_getElem?_getD, List.getElem?_append_right (Nat.le_refl _), Nat.sub_self] at h
        simp only [List.getElem?_cons_zero, Option.getD_some] at h
        rcases mask_bit ms _ 0 h with h1 | ⟨e, he, hb, h1⟩
        · simp at h1
        · have hea : e ∈ oj.after := by simpa using he
          have hel := hall e hea hb
          rcases h1 with h1 | h1
          · rw [← h1]; exact hel
          · by_cases hen : e.on < ms.length
            · have hex : e.on < ops.size := by
                have h2 := congrArg List.length hp
                simp at h2; omega
              have hoe := Array.getElem?_eq_getElem hex
              exact hg e.on _ hen hoe (hc e.on _ hoe hel) h1
            · simp [List.getD_eq_getElem?_getD, List.getElem?_eq_none (Nat.le_of_not_lt hen)] at h1
  exact key ops.toList [] [] rfl rfl (fun j oj hlt => by simp at hlt) j oj hj hall h

theorem anyL_take {i : Nat} {oi : Oper} {v : Value} {T : World → Prop} (hi : ops[i]? = some oi) (hsel : Region.noSelect ops = true) (hQ : ∀ c a w, Q (.panic c) (a.put oi.dst v) w → Q (.panic c) a w)
    (hq : quiet i = true) (hT : ∀ j oj, ops[j]? = some oj → j ≠ i → reach ops ops.size j i = false → ∀ w w', T w → Behind quiet late S j w w' → T w') :
    ∀ (fuel : Nat) (listed : Array Bool) (a : Act) (w : World), ClosedL ops listed → Region.free .any ops listed i = true → i ∈ Region.ready .any ops listed → YieldsIf P ops T oi v a → T w →
      anyL P ops Q S quiet late fuel (listed.setIfInBounds i true) (a.put oi.dst v) w → anyL P ops Q S quiet late (fuel + 1) listed a w := by
  have fst : ∀ (fuel : Nat) (listed : Array Bool) (a : Act) (w : World), YieldsIf P ops T oi v a → T w → anyL P ops Q S quiet late fuel (listed.setIfInBounds i true) (a.put oi.dst v) w →
      wpOp P ops Q i (fun a' w' => Behind quiet late S i w w' ∧ anyL P ops Q S quiet late fuel (listed.setIfInBounds i true) a' w') a w := fun fuel listed a w hy hw H =>
    hy.wpOp hi hw ⟨⟨fun _ => rfl, fun h => by rw [hq] at h; cases h⟩, H⟩
  intro fuel
  induction fuel with
  | zero =>
    intro listed a w hcl hf hr hy hw H
    refine ⟨fun h0 => absurd hr (by simp [h0]), fun j hj => ?_⟩
    by_cases e : j = i
    · subst e; exact fst 0 listed a w hy hw H
    · have := ready_mono hj e
      rw [H.1] at this
      cases this
  | succ fuel ih =>
    intro listed a w hcl hf hr hy hw H
    refine ⟨fun h0 => absurd hr (by simp [h0]), fun j hj => ?_⟩
    by_cases e : j = i
    · subst e; exact fst (fuel + 1) listed a w hy hw H
    · obtain ⟨hun, oj, hoj, hall⟩ := mem_ready.1 hj
      have hi0 := (mem_ready.1 hr).1
      have hno : ∀ x ∈ oj.after, Region.binds .any x = true → x.on ≠ i := by
        intro x hx hb hxi
        have h1 := hall x hx hb
        rw [hxi] at h1
        by_cases hlt : i < listed.size
        · simp [hlt] at hi0 h1; rw [hi0] at h1; cases h1
        · simp [hlt] at h1
      have hnr : reach ops ops.size j i = false := by
        cases hb : reach ops ops.size j i with
        | false => rfl
        | true =>
          have h1 := reach_listed hcl _ j oj hoj hall hb
          by_cases hlt : i < listed.size
          · simp [hlt] at hi0 h1; rw [hi0] at h1; cases h1
          · simp [hlt] at h1
      have hap := Region.free_spec hi hf j oj hoj e hun hno
      have hstep := H.2 j (ready_mono hj e)
      have hput := wpOp_putIf hoj hap (fun cs b => Region.noSelect_spec hsel i oi cs b hi) (fun cs b => Region.noSelect_spec hsel j oj cs b hoj) hQ hy hstep
      refine wpOp_mono (fun a' w' h3 => ⟨h3.2.1, ih (listed.setIfInBounds j true) a' w' (closed_set hcl hj) ?_ (ready_mono hr (Ne.symm e)) h3.1 (hT j oj hoj e hnr w w' hw h3.2.1) ?_⟩) hput
      · unfold Region.free at hf ⊢
        simp only [hi, List.all_eq_true, List.mem_range, Bool.or_eq_true] at hf ⊢
        intro k hk
        rcases hf k hk with (h1 | h1) | h1
        · exact .inl (.inl h1)
        · by_cases hjk : j = k
          · subst hjk; rw [hun] at h1; cases h1
          · exact .inl (.inr (by rw [getD_set_ne true hjk]; exact h1))
        · exact .inr h1
      · rw [Array.setIfInBounds_comm _ _ e]
        exact h3.2.2
end
end Go.Vc
