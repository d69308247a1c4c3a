/- Plain facts on texts of numbers. Condition: none. -/
import Derived.Test.YtbikhpphdhffaaaDoorDl
import Derived.Lib.Join
import Derived.Test.YtbikhpphdhffaaaDoorStepD
import Derived.Test.YtbikhpphdhffaaaDoorPk1
import Derived.Test.YtbikhpphdhffaaaDoorFind
namespace Go.Proofs.YtbikhpphdhffaaaDoor
open Go.Vc
set_option linter.all false
set_option maxRecDepth 10000
def dec (n : Int) : List UInt8 := Lib.decDigits n.toNat
theorem dec_small {n : Int} (h0 : 0 ≤ n) (h : n < 10) : bstr ([(⟨48 + n⟩ : By)].map By.n) = tx (dec n) := by
  rw [bstr_tx, dec, Lib.decDigits_one (by omega)]
  simp only [List.map_cons, List.map_nil]
  rw [show (48 + n).toNat = 48 + n.toNat by omega]
theorem dec_big {n : Int} (h : ¬ n < 10) : tx (dec (n / 10)) ++ bstr ([(⟨48 + n % 10⟩ : By)].map By.n) = tx (dec n) := by
  rw [bstr_tx, tx_append, dec, dec]
  have e : Lib.decDigits n.toNat = Lib.decDigits (n.toNat / 10) ++ [UInt8.ofNat (48 + n.toNat % 10)] := by
    conv => lhs; rw [Lib.decDigits, dif_neg (by omega : ¬ n.toNat < 10)]
  rw [e]
  simp only [List.map_cons, List.map_nil]
  rw [show (n / 10).toNat = n.toNat / 10 by omega, show (48 + n % 10).toNat = 48 + n.toNat % 10 by omega]
theorem dec_len {n : Int} (h0 : 0 ≤ n) (h1 : n ≤ 1000000) : (dec n).length ≤ 21 := by
  have : ∀ (k u : Nat), u < 10 ^ (k + 1) → (Lib.decDigits u).length ≤ k + 1 := by
    intro k
    induction k with
    | zero => intro u hu; rw [Lib.decDigits_one (by simpa using hu)]; simp
    | succ k ih =>
      intro u hu
      by_cases c : u < 10
      · rw [Lib.decDigits_one c]; simp
      · rw [Lib.decDigits, dif_neg c, List.length_append]
        have := ih (u / 10) (by rw [Nat.pow_succ] at hu; omega)
        simp only [List.length_cons, List.length_nil]; omega
  have := this 6 n.toNat (by simp; omega)
  unfold dec; omega
/-- numbers in decimal, joined -/
def nums (l : List Int) : List (List UInt8) := l.map dec
def lineOf (l : List Int) (sep : List UInt8) : List UInt8 := Lib.join (nums l) sep
theorem join_snoc (xs : List (List UInt8)) (x sep : List UInt8) : Lib.join (xs ++ [x]) sep = if xs = [] then x else Lib.join xs sep ++ sep ++ x := by
  cases xs with
  | nil => rw [if_pos rfl]; simp [Lib.join_one]
  | cons y r =>
    rw [if_neg (by simp), List.cons_append, Lib.join_cons, Lib.join_cons, Lib.joinTail, Lib.joinTail]
    simp
theorem line_snoc {l : List Int} {sep : List UInt8} {k : Nat} {x : Int} (hx : l[k]? = some x) : lineOf (l.take (k + 1)) sep = if k = 0 then dec x else lineOf (l.take k) sep ++ sep ++ dec x := by
  have hk := (List.getElem?_eq_some_iff.1 hx).1
  rw [lineOf, snoc_get hx, nums, List.map_append, List.map_cons, List.map_nil, join_snoc]
  by_cases c : k = 0
  · subst c; rw [if_pos rfl, if_pos (by simp)]
  · have : ¬ List.map dec (l.take k) = [] := by
      intro e
      have := congrArg List.length e
      rw [List.length_map, List.length_take, List.length_nil] at this; omega
    rw [if_neg c, if_neg this]; rfl
theorem line_len {l : List Int} {sep : List UInt8} (hs : sep.length ≤ 1) (hb : ∀ x ∈ l, 0 ≤ x ∧ x ≤ 1000000) (k : Nat) : (lineOf (l.take k) sep).length ≤ 22 * k := by
  induction k with
  | zero => simp [lineOf, nums, Lib.join_nil]
  | succ k ih =>
    by_cases hk : k < l.length
    · have hx := List.getElem?_eq_getElem hk
      have hd := dec_len (hb _ (List.getElem_mem hk)).1 (hb _ (List.getElem_mem hk)).2
      rw [line_snoc hx]
      split
      · omega
      · simp only [List.length_append]; omega
    · rw [List.take_of_length_le (by omega)]; rw [List.take_of_length_le (by omega)] at ih; omega
theorem parts_set {l : List Int} {ps : List ByteArray} {k : Nat} {x : Int} (hl : ps.length = l.length) (h : ps.take k = (l.take k).map fun n => tx (dec n)) (hx : l[k]? = some x) : (ps.set k (tx (dec x))).length = l.length ∧ (ps.set k (tx (dec x))).take (k + 1) = (l.take (k + 1)).map fun n => tx (dec n) := by
  have hk := (List.getElem?_eq_some_iff.1 hx).1
  refine ⟨by simp [hl], ?_⟩
  rw [snoc_get hx, List.map_append, ← h, List.take_add_one, List.getElem?_set]
  rw [if_pos rfl, if_pos (by omega), List.take_set_of_le (Nat.le_refl _)]
  rfl
theorem parts_end {l : List Int} {ps : List ByteArray} {k : Nat} (hl : ps.length = l.length) (h : ps.take k = (l.take k).map fun n => tx (dec n)) (hk : l.length ≤ k) : ps.map (·.data.toList) = nums l := by
  rw [List.take_of_length_le (by omega), List.take_of_length_le hk] at h
  rw [h, List.map_map, nums]
  apply List.map_congr_left
  intro n _
  simp [tx_list]
theorem line_all {l : List Int} {sep : List UInt8} (hs : sep.length ≤ 1) (hb : ∀ x ∈ l, 0 ≤ x ∧ x ≤ 1000000) : (lineOf l sep).length ≤ 22 * l.length := by
  have := line_len hs hb l.length
  rwa [List.take_length] at this
/-- the text of a packet -/
def pkTx (p : PkP) : List UInt8 := lineOf [p.message, p.part, p.parts] [47] ++ [58] ++ lineOf p.signals [32]
theorem line_three (a b c : Int) (s : List UInt8) : lineOf [a, b, c] s = dec a ++ s ++ dec b ++ s ++ dec c := by
  simp [lineOf, nums, Lib.join_cons, Lib.joinTail]
noncomputable def ptOut (p : PkP) : ByteArray × Bool := if PkOk p then (tx (pkTx p), true) else (tx [], false)
theorem pk_nums {p : PkP} (h : PkOk p) : ∀ x ∈ p.signals, 0 ≤ x ∧ x ≤ 1000000 := fun x hx => by have := h.2.2.2.2 x hx; omega
theorem pk_three {p : PkP} (h : PkOk p) : ∀ x ∈ [p.message, p.part, p.parts], 0 ≤ x ∧ x ≤ 1000000 := by
  obtain ⟨h1, h2, h3, _, _⟩ := h
  intro x hx
  simp only [List.mem_cons, List.not_mem_nil, or_false] at hx
  omega
end Go.Proofs.YtbikhpphdhffaaaDoor
