/- Rules for the stops: arithmetic, tests, variables in memory. Condition: none. -/
import Derived.Test.YtbikhpphdhffaaaGreatDoorBase9
namespace Go.Vc

/-! ### Frames of heaps -/
structure Mod (bs : List Nat) (h h' : Heap) : Prop where
  size : h.size ≤ h'.size
  blk : ∀ b, b < h.size → b ∉ bs → h'[b]? = h[b]?
structure Ext (h h' : Heap) : Prop where
  size : h.size ≤ h'.size
  blk : ∀ b, b < h.size → h'[b]? = h[b]?

theorem Ext.refl (h : Heap) : Ext h h := ⟨Nat.le_refl _, fun _ _ => rfl⟩
theorem Ext.trans {a b c : Heap} (h : Ext a b) (k : Ext b c) : Ext a c :=
  ⟨Nat.le_trans h.size k.size, fun i hi => (k.blk i (Nat.lt_of_lt_of_le hi h.size)).trans (h.blk i hi)⟩
theorem Ext.push (h : Heap) (o : Obj) : Ext h (h.push o) := ⟨by simp, fun b hb => by rw [Array.getElem?_push, if_neg (by omega)]⟩
theorem Mod.of_ext {h h' : Heap} (k : Ext h h') (bs : List Nat) : Mod bs h h' := ⟨k.size, fun b hb _ => k.blk b hb⟩
theorem Mod.refl (bs : List Nat) (h : Heap) : Mod bs h h := Mod.of_ext (Ext.refl h) bs
theorem Mod.trans {bs : List Nat} {a b c : Heap} (h : Mod bs a b) (k : Mod bs b c) : Mod bs a c :=
  ⟨Nat.le_trans h.size k.size, fun i hi hn => (k.blk i (Nat.lt_of_lt_of_le hi h.size) hn).trans (h.blk i hi hn)⟩
theorem Mod.weaken {bs bs' : List Nat} {h h' : Heap} (m : Mod bs h h') (hb : ∀ b ∈ bs, b < h.size → b ∈ bs') : Mod bs' h h' :=
  ⟨m.size, fun b hlt hn => m.blk b hlt fun hm => hn (hb b hm hlt)⟩
/-- Changes to blocks that did not exist at the start are none. -/
theorem Ext.mod {h0 h h' : Heap} (e : Ext h0 h) {bs : List Nat} (m : Mod bs h h') (hb : ∀ b ∈ bs, h0.size ≤ b) : Ext h0 h' :=
  ⟨Nat.le_trans e.size m.size, fun b hlt => (m.blk b (Nat.lt_of_lt_of_le hlt e.size) fun hm => by have := hb b hm; omega).trans (e.blk b hlt)⟩
theorem Mod.get {bs : List Nat} {h h' : Heap} (m : Mod bs h h') {b : Nat} {o : Obj} (hb : h[b]? = some o) (hn : b ∉ bs) : h'[b]? = some o :=
  (m.blk b (Array.getElem?_eq_some_iff.1 hb).1 hn).trans hb
theorem Ext.get {h h' : Heap} (m : Ext h h') {b : Nat} {o : Obj} (hb : h[b]? = some o) : h'[b]? = some o :=
  (m.blk b (Array.getElem?_eq_some_iff.1 hb).1).trans hb
theorem hput_mod (h : Heap) (b : Nat) (c : List Value) (t : TypeId) : Mod [b] h (hput h b c t) := by
  refine ⟨by simp [hput], fun i hi hn => ?_⟩
  simp only [hput]
  rw [Array.getElem?_setIfInBounds_ne (by simp at hn; omega)]
theorem hput_get {h : Heap} {b : Nat} (hb : b < h.size) (c : List Value) (t : TypeId) : (hput h b c t)[b]? = some (.cells c.toArray t (0, 0)) := by
  simp only [hput]
  rw [Array.getElem?_setIfInBounds_self_of_lt hb]
theorem hput_size (h : Heap) (b : Nat) (c : List Value) (t : TypeId) : (hput h b c t).size = h.size := by simp [hput]

/-! ### Tests -/
class IsProp (b : Bool) (p : outParam Prop) : Prop where
  iff : b = true ↔ p
instance (priority := low) isProp_any (b : Bool) : IsProp b (b = true) := ⟨Iff.rfl⟩
instance isProp_dec (p : Prop) [Decidable p] : IsProp (decide p) p := ⟨decide_eq_true_iff⟩
instance isProp_not (b : Bool) (p : Prop) [h : IsProp b p] : IsProp (!b) (¬ p) := ⟨by rw [← h.iff]; simp⟩
instance isProp_eqI (a b : Int) : IsProp (a == b) (a = b) := ⟨beq_iff_eq⟩
instance isProp_neI (a b : Int) : IsProp (a != b) (a ≠ b) := ⟨bne_iff_ne⟩
instance isProp_eqB (a b : Bool) : IsProp (a == b) (a = b) := ⟨beq_iff_eq⟩
instance isProp_neB (a b : Bool) : IsProp (a != b) (a ≠ b) := ⟨bne_iff_ne⟩
instance isProp_cond (a b : Bool) (p : Prop) [h : IsProp a p] : IsProp (bif true then a else b) p := ⟨h.iff⟩
instance isProp_cond' (a b : Bool) (p : Prop) [h : IsProp b p] : IsProp (bif false then a else b) p := ⟨h.iff⟩

theorem IsProp.neg {b : Bool} {p : Prop} [h : IsProp b p] (hb : b = false) : ¬ p := fun hp => by rw [h.iff.2 hp] at hb; cases hb

theorem CondVC.mk {b : Bool} {p A B : Prop} [h : IsProp b p] (ha : p → A) (hb : ¬ p → B) : CondVC (.bool b) A B :=
  ⟨b, rfl, fun e => ha (h.iff.1 e), fun e => hb (IsProp.neg e)⟩
theorem CondVC.t {A B : Prop} (ha : A) : CondVC (.bool true) A B := ⟨true, rfl, fun _ => ha, fun e => (by cases e)⟩
theorem CondVC.f {A B : Prop} (hb : B) : CondVC (.bool false) A B := ⟨false, rfl, fun e => (by cases e), fun _ => hb⟩
theorem CondVC.yes {b : Bool} {p A B : Prop} [h : IsProp b p] (hp : p) (ha : A) : CondVC (.bool b) A B := ⟨b, rfl, fun _ => ha, fun e => absurd hp (IsProp.neg e)⟩
theorem CondVC.no {b : Bool} {p A B : Prop} [h : IsProp b p] (hp : ¬ p) (hb : B) : CondVC (.bool b) A B := ⟨b, rfl, fun e => absurd (h.iff.1 e) hp, fun _ => hb⟩
theorem SplitVC.mk {b : Bool} {p : Prop} {F : Bool → Prop} {G : Prop} [h : IsProp b p] (ha : p → F true) (hb : ¬ p → F false) : SplitVC (.bool b) F G :=
  ⟨.inl ⟨b, rfl, fun e => ha (h.iff.1 e), fun e => hb (IsProp.neg e)⟩⟩
theorem SplitVC.t {F : Bool → Prop} {G : Prop} (ha : F true) : SplitVC (.bool true) F G := ⟨.inl ⟨true, rfl, fun _ => ha, fun e => (by cases e)⟩⟩
theorem SplitVC.f {F : Bool → Prop} {G : Prop} (hb : F false) : SplitVC (.bool false) F G := ⟨.inl ⟨false, rfl, fun e => (by cases e), fun _ => hb⟩⟩
theorem SplitVC.yes {b : Bool} {p : Prop} {F : Bool → Prop} {G : Prop} [h : IsProp b p] (hp : p) (ha : F true) : SplitVC (.bool b) F G := ⟨.inl ⟨b, rfl, fun _ => ha, fun e => absurd hp (IsProp.neg e)⟩⟩
theorem SplitVC.no {b : Bool} {p : Prop} {F : Bool → Prop} {G : Prop} [h : IsProp b p] (hp : ¬ p) (hb : F false) : SplitVC (.bool b) F G := ⟨.inl ⟨b, rfl, fun e => absurd (h.iff.1 e) hp, fun _ => hb⟩⟩

theorem SplitVC.u {v : Value} {F : Bool → Prop} {G : Prop} (hv : v = undef) (hg : G) : SplitVC v F G := ⟨.inr ⟨fun b h => (by rw [hv] at h; cases h), hg⟩⟩
/-- What a function returns is this bool. -/
theorem bool_is {b : Bool} {p q : Prop} [h : IsProp b p] [Decidable q] (e : p ↔ q) : Value.bool b = Value.bool (decide q) := by
  congr 1
  have := h.iff
  by_cases hq : q
  · simp only [hq, decide_true]; exact this.2 (e.2 hq)
  · simp only [hq, decide_false]
    cases hb : b
    · rfl
    · exact absurd (e.1 (this.1 hb)) hq
theorem bool_t {q : Prop} [Decidable q] (e : q) : Value.bool true = Value.bool (decide q) := by simp [e]
theorem bool_f {q : Prop} [Decidable q] (e : ¬ q) : Value.bool false = Value.bool (decide q) := by simp [e]

/-! ### Arithmetic -/
theorem wrap_id (n : Int) (h1 : -9223372036854775808 ≤ n) (h2 : n ≤ 9223372036854775807) : IntKind.i64.wrap n = n := IntWalk.i64_in n ⟨by omega, by omega⟩
theorem ArithVC.mk {n : Int} {K : Value → Prop} (h : -9223372036854775808 ≤ n ∧ n ≤ 9223372036854775807) (hk : K (.int .i64 n)) : ArithVC .i64 .i64 n K :=
  ⟨rfl, by rw [wrap_id n h.1 h.2]; exact hk⟩
theorem ArithVC.as {n m : Int} {K : Value → Prop} (e : n = m) (h : -9223372036854775808 ≤ m ∧ m ≤ 9223372036854775807) (hk : K (.int .i64 m)) : ArithVC .i64 .i64 n K := by
  subst e; exact ArithVC.mk h hk
theorem ArithVC.raw {k : IntKind} {n : Int} {K : Value → Prop} (hk : K (.int k (k.wrap n))) : ArithVC k k n K := ⟨rfl, hk⟩
theorem QuoVC.mk {a b : Int} {K : Value → Prop} (ha : 0 ≤ a) (hb : 0 < b) (ha2 : a ≤ 9223372036854775807) (hk : K (.int .i64 (a / b))) : QuoVC false .i64 .i64 a b K := by
  refine ⟨rfl, by omega, ?_⟩
  have h1 : a.tdiv b = a / b := Int.tdiv_eq_ediv_of_nonneg ha
  have h2 : 0 ≤ a / b := Int.ediv_nonneg ha (by omega)
  have h3 : a / b ≤ a := Int.ediv_le_self b ha
  simp only [Bool.false_eq_true, if_false]
  rw [h1, wrap_id _ (by omega) (by omega)]
  exact hk
theorem RemVC.mk {a b : Int} {K : Value → Prop} (ha : 0 ≤ a) (hb : 0 < b) (hk : K (.int .i64 (a % b))) : QuoVC true .i64 .i64 a b K := by
  refine ⟨rfl, by omega, ?_⟩
  have h1 : a.tmod b = a % b := Int.tmod_eq_emod_of_nonneg ha
  simp only [if_true]
  rw [h1]
  exact hk
theorem CmpVC.mk {k : IntKind} {b : Bool} {K : Value → Prop} (hk : K (.bool b)) : CmpVC k k b K := ⟨rfl, hk⟩
theorem BitsVC.mk {op : BinOp} {k : IntKind} {a b : Int} {K : Value → Prop} (hk : K (.int k (bits op k a b))) : BitsVC op k k a b K := ⟨rfl, hk⟩
theorem CatVC.mk {a b : ByteArray} {K : Value → Prop} (h : a.size + b.size ≤ 9223372036854775807) (hk : K (.string (a ++ b))) : CatVC a b K := by
  refine ⟨?_, hk⟩
  rw [IntKind.max_i64]; omega

/-! ### A variable in memory -/
def Bx (h : Heap) (b : Nat) (l : List Value) (T : TypeId) : Prop := h[b]? = some (.cells l.toArray T (0, 0))

theorem Bx.lt {h : Heap} {b : Nat} {l : List Value} {T : TypeId} (hb : Bx h b l T) : b < h.size := (Array.getElem?_eq_some_iff.1 hb).1
theorem Bx.mod {h h' : Heap} {b : Nat} {l : List Value} {T : TypeId} (hb : Bx h b l T) {bs : List Nat} (m : Mod bs h h') (hn : b ∉ bs) : Bx h' b l T := m.get hb hn
theorem Bx.ext {h h' : Heap} {b : Nat} {l : List Value} {T : TypeId} (hb : Bx h b l T) (m : Ext h h') : Bx h' b l T := m.get hb
theorem Bx.cell {h : Heap} {b : Nat} {l : List Value} {T : TypeId} (hb : Bx h b l T) {o : Nat} : hcell h ⟨b, o, none⟩ = l[o]? := by
  have hb' : h[b]? = some (.cells l.toArray T (0, 0)) := hb
  simp [hcell, hb']
theorem Bx.load {h : Heap} {b : Nat} {l : List Value} {T : TypeId} (hb : Bx h b l T) {o : Nat} {u : Value} {K : Value → Prop} (hu : l[o]? = some u) (hk : K u) :
    LoadVC h (.pointer (some ⟨b, o, none⟩)) none K := ⟨_, rfl, u, by rw [hb.cell]; exact hu, hk⟩
theorem Bx.loadN {h : Heap} {b : Nat} {l : List Value} {T : TypeId} (hb : Bx h b l T) {o n : Nat} {K : Value → Prop} (hn : o + n ≤ l.length) (hk : K (.agg ((l.drop o).take n).toArray)) :
    LoadVC h (.pointer (some ⟨b, o, none⟩)) (some n) K := by
  refine ⟨_, rfl, (l.drop o).take n, by simp; omega, fun j u hu => ?_, hk⟩
  rw [addr_add, hb.cell]
  rw [List.getElem?_take] at hu
  split at hu
  · rw [List.getElem?_drop] at hu; exact hu
  · cases hu
/-- The whole variable. -/
theorem Bx.loadA {h : Heap} {b : Nat} {l : List Value} {T : TypeId} (hb : Bx h b l T) {n : Nat} {K : Value → Prop} (hn : n = l.length) (hk : K (.agg l.toArray)) :
    LoadVC h (.pointer (some ⟨b, 0, none⟩)) (some n) K := by
  subst hn
  exact hb.loadN (by omega) (by simpa using hk)
theorem Bx.store {h : Heap} {b : Nat} {l : List Value} {T : TypeId} (hb : Bx h b l T) {o n : Nat} {x : Value} {us : List Value} {K : Heap → Prop} (hx : x.cells.toList = us) (hun : us.length = n) (hn : o + n ≤ l.length)
    (h1 : ∀ u ∈ us, u.oneCell' = true) (hk : ∀ h', Mod [b] h h' → h'.size = h.size → Bx h' b (spl l o us) T → K h') : StoreVC h n (.pointer (some ⟨b, o, none⟩)) x K := by
  subst hx
  refine ⟨b, o, l.toArray, T, rfl, hb, by simpa using hun, by simpa using hn, h1, hk _ (hput_mod h b _ T) (hput_size h b _ T) ?_⟩
  exact hput_get hb.lt _ T
theorem AllocVC.mk {h : Heap} {cells : Array Value} {t : TypeId} {K : Value → Heap → Prop} (l : List Value) (hl : cells.toList = l)
    (hk : ∀ h' b, b = h.size → h'.size = h.size + 1 → Ext h h' → Bx h' b l t → K (.pointer (some ⟨b, 0, none⟩)) h') : AllocVC h cells t K := by
  subst hl
  refine ⟨hk _ h.size rfl (by simp) (Ext.push h _) ?_⟩
  simp [Bx]

/-! ### Loops -/
def Env.puts (E : Env) : List (Nat × Value) → Env
  | [] => E
  | (t, v) :: l => (Env.puts E l).put t v
def AllEq (E : Env) : List (Nat × Value) → Prop
  | [] => True
  | [(t, v)] => E t = v
  | (t, v) :: l => E t = v ∧ AllEq E l
theorem puts_self (E : Env) : ∀ l : List (Nat × Value), AllEq E l → E.puts l = E
  | [], _ => rfl
  | [(t, v)], h => put_self E t v h
  | (t, v) :: (t', v') :: l, h => by
    have := puts_self E ((t', v') :: l) h.2
    show (E.puts ((t', v') :: l)).put t v = E
    rw [this]
    exact put_self E t v h.1

/-- A loop: the slots that count are told for each ghost, and what holds of the heap. -/
theorem LoopVC.mk {body : Post → Env → Heap → Prop} {Q : Post} {E : Env} {h : Heap} {α : Type} (slots : α → List (Nat × Value)) (I : α → Heap → Prop) (μ : α → Nat) (g0 : α) (hs : AllEq E (slots g0)) (h0 : I g0 h)
    (round : ∀ g (R : Env) h, I g h → body (fun x E' h' => match x with | .normal => ∃ g', (AllEq E' (slots g') ∧ I g' h') ∧ μ g' < μ g | x => Q x E' h') (R.puts (slots g)) h) : LoopVC body Q E h := by
  refine ⟨α, fun g E h => AllEq E (slots g) ∧ I g h, μ, ⟨g0, hs, h0⟩, fun g E h hI => ?_⟩
  have := round g E h hI.2
  rw [puts_self E _ hI.1] at this
  exact this
end Go.Vc
