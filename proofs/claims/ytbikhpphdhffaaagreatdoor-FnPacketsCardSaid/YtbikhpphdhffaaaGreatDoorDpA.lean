/- Several small texts in one: Merge, StepD, Dp, Dq, StepE. Condition: none. -/
import Derived.Test.YtbikhpphdhffaaaGreatDoorStep2
import Derived.Test.YtbikhpphdhffaaaGreatDoorDl
import Derived.Lib.Join
import Derived.Test.YtbikhpphdhffaaaGreatDoorPk1
import Derived.Test.YtbikhpphdhffaaaGreatDoorComA
import Derived.Lib.SplitLaws
import Derived.Lib.CountLaws
import Derived.Lib.IndexLaws
import Derived.Lib.IndexBytes
namespace Go.Vc
set_option linter.all false
theorem v_seqM1 {P : Program} {a c : MCode} {Q : Post} {E : Env} {h : Heap} (slots : List (Nat × Value)) (rest : ∀ (R : Env) (h' : Heap), Ext h h' → vc P c Q (R.puts slots) h')
    (k : (∀ (E' : Env) (h' : Heap), AllEq E' slots → Ext h h' → vc P c Q E' h') → vc P (.seq a c) Q E h) : vc P (.seq a c) Q E h :=
  k fun E' h' hs e => by
    have := rest E' h' e
    rwa [puts_self E' _ hs] at this
theorem v_seqM2 {P : Program} {a b c : MCode} {Q : Post} {E : Env} {h : Heap} (slots : List (Nat × Value)) (rest : ∀ (R : Env) (h' : Heap), Ext h h' → vc P c Q (R.puts slots) h')
    (k : (∀ (E' : Env) (h' : Heap), AllEq E' slots → Ext h h' → vc P c Q E' h') → vc P (.seq a (.seq b c)) Q E h) : vc P (.seq a (.seq b c)) Q E h :=
  k fun E' h' hs e => by
    have := rest E' h' e
    rwa [puts_self E' _ hs] at this
theorem beqI (a b : Int) : (a == b) = decide (a = b) := by rw [Bool.eq_iff_iff]; simp
theorem beqB (a b : Bool) : (a == b) = decide (a = b) := by rw [Bool.eq_iff_iff]; simp
end Go.Vc
namespace Go.Vc
set_option linter.all false
theorem s_bstr {P : Program} {l : List MStep} {E : Env} {h : Heap} {K : Env → Heap → Prop} {d : Nat} {x : Operand} {v : Value} {own : Bool} {xs : List By} (hs : SlX own h v xs) (hx : ev E x = v)
    (hk : vcOps P l (E.put d (.string (bstr (xs.map By.n)))) h K) : vcOps P (.op ⟨some d, .eff (.bstr x), none⟩ :: l) E h K := by
  show BstrVC h (ev E x) _
  rw [hx]
  have hs0 := hs
  obtain ⟨a, c, rfl, hs'⟩ := hs
  rcases hs' with ⟨rfl, hc⟩ | ⟨ad, rfl, g0, g1, g2, g3, C, T, fz, g4, g5, g6, g7⟩
  · refine ⟨a, 0, c, [], rfl, rfl, ?_, hk⟩
    cases a with
    | none => rfl
    | some a => intro j u hj; simp at hj
  · refine ⟨some ad, xs.length, c, xs.map By.n, rfl, by simp, ?_, hk⟩
    intro j u hj
    rw [List.map_map, List.getElem?_map] at hj
    cases hx : xs[j]? with
    | none => rw [hx] at hj; cases hj
    | some b =>
      rw [hx] at hj
      have := hs0.cell hx (j := 0) (by decide)
      obtain ⟨bk, o, s⟩ := ad
      simp only at g1
      subst g1
      have e : (Addr.add ⟨bk, o, none⟩ j) = ⟨bk, o + j * 1 + 0, none⟩ := by simp [Addr.add]
      rw [e, ← hj]
      exact this
theorem conv_u8 {a : Int} {K : Value → Prop} (hb : 0 ≤ a ∧ a ≤ 255) (q : K (.int .u8 a)) : K (.int .u8 (IntKind.u8.wrap a)) := by
  have : IntKind.u8.wrap a = a := by rw [IntKind.wrap_u8]; omega
  rw [this]; exact q
end Go.Vc
namespace Go.Proofs.YtbikhpphdhffaaaGreatDoor
open Go.Vc
set_option linter.all false
set_option maxRecDepth 10000
def dec (n : Int) : List UInt8 := Lib.decDigits n.toNat
theorem dec_small {n : Int} (h0 : 0 ≤ n) (h : n < 10) : bstr ([(⟨48 + n⟩ : By)].map By.n) = tx (dec n) := by
  rw [bstr_tx, dec, Lib.decDigits_one (by omega)]
  simp only [List.map_cons, List.map_nil]
  rw [show (48 + n).toNat = 48 + n.toNat by omega]
theorem dec_big {n : Int} (h : ¬ n < 10) : tx (dec (n / 10)) ++ bstr ([(⟨48 + n % 10⟩ : By)].map By.n) = tx (dec n) := by
  rw [bstr_tx, tx_append, dec, dec]
  have e : Lib.decDigits n.toNat = Lib.decDigits (n.toNat / 10) ++ [UInt8.ofNat (48 + n.toNat % 10)] := by
    conv => lhs; rw [Lib.decDigits, dif_neg (by omega : ¬ n.toNat < 10)]
  rw [e]
  simp only [List.map_cons, List.map_nil]
  rw [show (n / 10).toNat = n.toNat / 10 by omega, show (48 + n % 10).toNat = 48 + n.toNat % 10 by omega]
theorem dec_len {n : Int} (h0 : 0 ≤ n) (h1 : n ≤ 1000000) : (dec n).length ≤ 21 := by
  have : ∀ (k u : Nat), u < 10 ^ (k + 1) → (Lib.decDigits u).length ≤ k + 1 := by
    intro k
    induction k with
    | zero => intro u hu; rw [Lib.decDigits_one (by simpa using hu)]; simp
    | succ k ih =>
      intro u hu
      by_cases c : u < 10
      · rw [Lib.decDigits_one c]; simp
      · rw [Lib.decDigits, dif_neg c, List.length_append]
        have := ih (u / 10) (by rw [Nat.pow_succ] at hu; omega)
        simp only [List.length_cons, List.length_nil]; omega
  have := this 6 n.toNat (by simp; omega)
  unfold dec; omega
/-- numbers in decimal, joined -/
def nums (l : List Int) : List (List UInt8) := l.map dec
def lineOf (l : List Int) (sep : List UInt8) : List UInt8 := Lib.join (nums l) sep
theorem join_snoc (xs : List (List UInt8)) (x sep : List UInt8) : Lib.join (xs ++ [x]) sep = if xs = [] then x else Lib.join xs sep ++ sep ++ x := by
  cases xs with
  | nil => rw [if_pos rfl]; simp [Lib.join_one]
  | cons y r =>
    rw [if_neg (by simp), List.cons_append, Lib.join_cons, Lib.join_cons, Lib.joinTail, Lib.joinTail]
    simp
theorem line_snoc {l : List Int} {sep : List UInt8} {k : Nat} {x : Int} (hx : l[k]? = some x) : lineOf (l.take (k + 1)) sep = if k = 0 then dec x else lineOf (l.take k) sep ++ sep ++ dec x := by
  have hk := (List.getElem?_eq_some_iff.1 hx).1
  rw [lineOf, snoc_get hx, nums, List.map_append, List.map_cons, List.map_nil, join_snoc]
  by_cases c : k = 0
  · subst c; rw [if_pos rfl, if_pos (by simp)]
  · have : ¬ List.map dec (l.take k) = [] := by
      intro e
      have := congrArg List.length e
      rw [List.length_map, List.length_take, List.length_nil] at this; omega
    rw [if_neg c, if_neg this]; rfl
theorem line_len {l : List Int} {sep : List UInt8} (hs : sep.length ≤ 1) (hb : ∀ x ∈ l, 0 ≤ x ∧ x ≤ 1000000) (k : Nat) : (lineOf (l.take k) sep).length ≤ 22 * k := by
  induction k with
  | zero => simp [lineOf, nums, Lib.join_nil]
  | succ k ih =>
    by_cases hk : k < l.length
    · have hx := List.getElem?_eq_getElem hk
      have hd := dec_len (hb _ (List.getElem_mem hk)).1 (hb _ (List.getElem_mem hk)).2
      rw [line_snoc hx]
      split
      · omega
      · simp only [List.length_append]; omega
    · rw [List.take_of_length_le (by omega)]; rw [List.take_of_length_le (by omega)] at ih; omega
theorem parts_set {l : List Int} {ps : List ByteArray} {k : Nat} {x : Int} (hl : ps.length = l.length) (h : ps.take k = (l.take k).map fun n => tx (dec n)) (hx : l[k]? = some x) : (ps.set k (tx (dec x))).length = l.length ∧ (ps.set k (tx (dec x))).take (k + 1) = (l.take (k + 1)).map fun n => tx (dec n) := by
  have hk := (List.getElem?_eq_some_iff.1 hx).1
  refine ⟨by simp [hl], ?_⟩
  rw [snoc_get hx, List.map_append, ← h, List.take_add_one, List.getElem?_set]
  rw [if_pos rfl, if_pos (by omega), List.take_set_of_le (Nat.le_refl _)]
  rfl
theorem parts_end {l : List Int} {ps : List ByteArray} {k : Nat} (hl : ps.length = l.length) (h : ps.take k = (l.take k).map fun n => tx (dec n)) (hk : l.length ≤ k) : ps.map (·.data.toList) = nums l := by
  rw [List.take_of_length_le (by omega), List.take_of_length_le hk] at h
  rw [h, List.map_map, nums]
  apply List.map_congr_left
  intro n _
  simp [tx_list]
theorem line_all {l : List Int} {sep : List UInt8} (hs : sep.length ≤ 1) (hb : ∀ x ∈ l, 0 ≤ x ∧ x ≤ 1000000) : (lineOf l sep).length ≤ 22 * l.length := by
  have := line_len hs hb l.length
  rwa [List.take_length] at this
/-- the text of a packet -/
def pkTx (p : PkP) : List UInt8 := lineOf [p.message, p.part, p.parts] [47] ++ [58] ++ lineOf p.signals [32]
theorem line_three (a b c : Int) (s : List UInt8) : lineOf [a, b, c] s = dec a ++ s ++ dec b ++ s ++ dec c := by
  simp [lineOf, nums, Lib.join_cons, Lib.joinTail]
noncomputable def ptOut (p : PkP) : ByteArray × Bool := if PkOk p then (tx (pkTx p), true) else (tx [], false)
theorem pk_nums {p : PkP} (h : PkOk p) : ∀ x ∈ p.signals, 0 ≤ x ∧ x ≤ 1000000 := fun x hx => by have := h.2.2.2.2 x hx; omega
theorem pk_three {p : PkP} (h : PkOk p) : ∀ x ∈ [p.message, p.part, p.parts], 0 ≤ x ∧ x ≤ 1000000 := by
  obtain ⟨h1, h2, h3, _, _⟩ := h
  intro x hx
  simp only [List.mem_cons, List.not_mem_nil, or_false] at hx
  omega
end Go.Proofs.YtbikhpphdhffaaaGreatDoor
namespace Go.Proofs.YtbikhpphdhffaaaGreatDoor
open Go.Vc
set_option linter.all false
set_option maxRecDepth 10000
def splitOn (b : UInt8) : List UInt8 → List (List UInt8)
  | [] => [[]]
  | c :: l => if c = b then [] :: splitOn b l else match splitOn b l with
    | [] => [[c]]
    | w :: r => (c :: w) :: r
theorem splitOn_none {b : UInt8} {l : List UInt8} (h : b ∉ l) : splitOn b l = [l] := by
  induction l with
  | nil => rfl
  | cons c l ih =>
    rw [splitOn, if_neg (fun e => h (by rw [e]; exact List.mem_cons_self ..)), ih (fun q => h (List.mem_cons_of_mem _ q))]
theorem splitOn_app {b : UInt8} {A B : List UInt8} (h : b ∉ A) : splitOn b (A ++ b :: B) = A :: splitOn b B := by
  induction A with
  | nil => rw [List.nil_append, splitOn, if_pos rfl]
  | cons c A ih =>
    rw [List.cons_append, splitOn, if_neg (fun e => h (by rw [e]; exact List.mem_cons_self ..)), ih (fun q => h (List.mem_cons_of_mem _ q))]
theorem join_splitOn (b : UInt8) (l : List UInt8) : Lib.join (splitOn b l) [b] = l ∧ splitOn b l ≠ [] := by
  induction l with
  | nil => exact ⟨by rw [splitOn, Lib.join_one], by simp [splitOn]⟩
  | cons c l ih =>
    obtain ⟨h1, h2⟩ := ih
    rw [splitOn]
    split
    · rename_i e
      subst e
      refine ⟨?_, by simp⟩
      cases hs : splitOn c l with
      | nil => exact absurd hs h2
      | cons w r =>
        rw [hs, Lib.join_cons] at h1
        rw [Lib.join_cons, Lib.joinTail, ← h1]
        simp [Lib.joinTail]
    · cases hs : splitOn b l with
      | nil => exact absurd hs h2
      | cons w r =>
        refine ⟨?_, by simp⟩
        rw [hs, Lib.join_cons] at h1
        simp only
        rw [Lib.join_cons, List.cons_append, h1]
theorem splitOn_join {b : UInt8} {xs : List (List UInt8)} (hne : xs ≠ []) (h : ∀ x ∈ xs, b ∉ x) : splitOn b (Lib.join xs [b]) = xs := by
  induction xs with
  | nil => exact absurd rfl hne
  | cons x r ih =>
    cases r with
    | nil => rw [Lib.join_one]; exact splitOn_none (h x (List.mem_cons_self ..))
    | cons y r =>
      have : Lib.join (x :: y :: r) [b] = x ++ b :: Lib.join (y :: r) [b] := by
        rw [Lib.join_cons, Lib.join_cons, Lib.joinTail, Lib.joinTail]; simp
      rw [this, splitOn_app (h x (List.mem_cons_self ..)), ih (by simp) (fun z hz => h z (List.mem_cons_of_mem _ hz))]
theorem index_cases (l : List UInt8) (b : UInt8) : (Lib.index l [b] = -1 ∧ b ∉ l) ∨ ∃ i : Nat, Lib.index l [b] = (i : Int) ∧ i < l.length ∧ l = l.take i ++ b :: l.drop (i + 1) ∧ b ∉ l.take i := by
  have hg := Lib.indexByte_ge l b
  rw [Lib.index_one]
  by_cases c : Lib.indexByte l b = -1
  · refine .inl ⟨c, fun hm => ?_⟩
    obtain ⟨k, hk, e⟩ := List.getElem_of_mem hm
    exact Lib.indexByte_none c k (by rw [List.getElem?_eq_getElem hk, e])
  · obtain ⟨i, hi⟩ : ∃ i : Nat, Lib.indexByte l b = (i : Int) := ⟨(Lib.indexByte l b).toNat, by omega⟩
    obtain ⟨h1, h2⟩ := Lib.indexByte_some hi
    have hlt := (List.getElem?_eq_some_iff.1 h1).1
    refine .inr ⟨i, hi, hlt, ?_, fun hm => ?_⟩
    · have : l.drop i = b :: l.drop (i + 1) := by
        rw [List.drop_eq_getElem_cons hlt]
        congr 1
        exact (List.getElem?_eq_some_iff.1 h1).2
      rw [← this, List.take_append_drop]
    · obtain ⟨k, hk, e⟩ := List.getElem_of_mem hm
      rw [List.length_take] at hk
      refine h2 k (by omega) ?_
      rw [List.getElem_take] at e
      rw [List.getElem?_eq_getElem (by omega), e]
theorem splitK_on (b : UInt8) (n : Nat) : ∀ l : List UInt8, l.length ≤ n → Lib.splitK [b] 0 (Lib.count l [b]) l = splitOn b l := by
  induction n with
  | zero =>
    intro l hl
    have : l = [] := List.eq_nil_of_length_eq_zero (by omega)
    subst this
    rcases index_cases [] b with ⟨h1, _⟩ | ⟨i, _, h2, _⟩
    · rw [Lib.count_miss h1]; rfl
    · simp at h2
  | succ n ih =>
    intro l hl
    rcases index_cases l b with ⟨h1, h2⟩ | ⟨i, h1, h2, h3, h4⟩
    · rw [Lib.count_miss h1, Lib.splitK, splitOn_none h2]
    · rw [Lib.count_hit (by simp) h1, Nat.add_comm, Lib.splitK, if_neg (by rw [h1, beq_iff_eq]; omega), h1]
      simp only [Int.toNat_natCast, Nat.add_zero, List.length_cons, List.length_nil, Nat.zero_add]
      rw [ih (l.drop (i + 1)) (by rw [List.length_drop]; omega)]
      conv => rhs; rw [h3, splitOn_app h4]
theorem splitB_on (s : ByteArray) (b : UInt8) : Lib.splitB (tx [b]) 0 (Lib.countB s (tx [b])) s = (splitOn b s.data.toList).map tx := by
  have h := Lib.splitB_data (tx [b]) 0 (Lib.countB s (tx [b])) s
  have hc : Lib.countB s (tx [b]) = Lib.count s.data.toList [b] := rfl
  rw [hc] at h ⊢
  rw [show (tx [b]).data.toList = [b] from rfl, splitK_on b _ _ (Nat.le_refl _)] at h
  rw [← h, List.map_map]
  have : ∀ x : ByteArray, (tx ∘ fun x => x.data.toList) x = x := fun x => by simp [tx]
  rw [List.map_congr_left (g := id) (fun x _ => this x), List.map_id]
theorem cut_app {b : UInt8} {A B : List UInt8} (h : b ∉ A) : Lib.cut (A ++ b :: B) [b] = (A, B, true) := by
  rcases index_cases (A ++ b :: B) b with ⟨h1, h2⟩ | ⟨i, h1, h2, h3, h4⟩
  · exact absurd (by simp) h2
  · have hi : i = A.length := by
      rcases Nat.lt_trichotomy i A.length with c | c | c
      · exfalso
        have e : (A ++ b :: B)[i]? = some b := by
          have hlt : i < (A ++ b :: B).length := h2
          have e2 : (List.take i (A ++ b :: B) ++ b :: List.drop (i + 1) (A ++ b :: B))[i]? = some b := by
            rw [List.getElem?_append_right (by rw [List.length_take]; omega), List.length_take, Nat.min_eq_left (by omega), Nat.sub_self]; rfl
          rw [← h3] at e2
          exact e2
        rw [List.getElem?_append_left c] at e
        exact h (List.mem_of_getElem? e)
      · exact c
      · exfalso
        refine h4 ?_
        rw [List.take_append, List.mem_append]
        right
        rw [show i - A.length = (i - A.length - 1) + 1 by omega, List.take_succ_cons]
        exact List.mem_cons_self ..
    subst hi
    rw [Lib.cut, h1, if_pos (by omega)]
    simp
theorem cut_spec (b : UInt8) (l : List UInt8) : ((Lib.cut l [b]).2.2 = true ∧ l = (Lib.cut l [b]).1 ++ [b] ++ (Lib.cut l [b]).2.1) ∨ ((Lib.cut l [b]).2.2 = false ∧ (Lib.cut l [b]).2.1 = []) := by
  rcases index_cases l b with ⟨h1, h2⟩ | ⟨i, h1, h2, h3, h4⟩
  · right
    rw [Lib.cut, h1, if_neg (by omega)]; exact ⟨rfl, rfl⟩
  · left
    rw [Lib.cut, h1, if_pos (by omega)]
    refine ⟨rfl, ?_⟩
    simp only [Int.toNat_natCast, List.length_cons, List.length_nil, Nat.zero_add]
    rw [List.append_assoc]; exact h3
/-- digits -/
def Dig (c : UInt8) : Prop := 48 ≤ c.toNat ∧ c.toNat ≤ 57
theorem ofDigit {d : Nat} (h : d < 10) : (UInt8.ofNat (48 + d)).toNat = 48 + d := by
  rw [UInt8.toNat_ofNat']; omega
def valN (w : List UInt8) : Nat := w.foldl (fun n c => 10 * n + (c.toNat - 48)) 0
theorem valN_snoc (w : List UInt8) (c : UInt8) : valN (w ++ [c]) = 10 * valN w + (c.toNat - 48) := by simp [valN]
theorem dec_all (u : Nat) : (∀ c ∈ Lib.decDigits u, Dig c) ∧ Lib.decDigits u ≠ [] ∧ valN (Lib.decDigits u) = u ∧ (1 ≤ u → (Lib.decDigits u)[0]? ≠ some 48) := by
  induction u using Nat.strongRecOn with
  | _ u ih =>
    by_cases c : u < 10
    · rw [Lib.decDigits_one c]
      refine ⟨fun x hx => ?_, by simp, ?_, fun h1 e => ?_⟩
      · obtain rfl := List.mem_singleton.1 hx
        unfold Dig; rw [ofDigit c]; omega
      · simp only [valN, List.foldl_cons, List.foldl_nil]; rw [ofDigit c]; omega
      · simp only [List.getElem?_cons_zero, Option.some.injEq] at e
        have := congrArg UInt8.toNat e
        rw [ofDigit c] at this
        simp at this; omega
    · obtain ⟨h1, h2, h3, h4⟩ := ih (u / 10) (by omega)
      have hd : u % 10 < 10 := Nat.mod_lt _ (by omega)
      rw [Lib.decDigits, dif_neg c]
      refine ⟨fun x hx => ?_, by simp, ?_, fun _ => ?_⟩
      · rcases List.mem_append.1 hx with hx | hx
        · exact h1 x hx
        · obtain rfl := List.mem_singleton.1 hx
          unfold Dig; rw [ofDigit hd]; omega
      · rw [valN_snoc, h3, ofDigit hd]; omega
      · rw [List.getElem?_append_left (by cases hq : Lib.decDigits (u / 10) with | nil => exact absurd hq h2 | cons a r => simp)]
        exact h4 (by omega)
theorem dec_dig (n : Int) : ∀ c ∈ dec n, Dig c := (dec_all n.toNat).1
theorem dec_ne (n : Int) : dec n ≠ [] := (dec_all n.toNat).2.1
theorem dec_val {n : Int} (h : 0 ≤ n) : ((valN (dec n) : Nat) : Int) = n := by rw [dec, (dec_all n.toNat).2.2.1]; omega
theorem dec_inj {a b : Int} (ha : 0 ≤ a) (hb : 0 ≤ b) (h : dec a = dec b) : a = b := by rw [← dec_val ha, ← dec_val hb, h]
theorem dec_not (n : Int) {b : UInt8} (hb : b.toNat < 48 ∨ 57 < b.toNat) : b ∉ dec n := fun h => by have := dec_dig n b h; unfold Dig at this; omega
/-- Atoi reads them -/
theorem parse_dig (l : List UInt8) : ∀ acc : Nat, (∀ c ∈ l, Dig c) → (acc + 1) * 10 ^ l.length ≤ 10 ^ 15 → Lib.parseUint10 acc l = .ok (l.foldl (fun n c => 10 * n + (c.toNat - 48)) acc) := by
  induction l with
  | nil => intro acc _ _; rfl
  | cons c r ih =>
    intro acc hd hb
    have hc := hd c (List.mem_cons_self ..)
    unfold Dig at hc
    have hp : 1 ≤ 10 ^ r.length := Nat.one_le_pow _ _ (by omega)
    have hb2 : (acc + 1) * 10 * 10 ^ r.length ≤ 10 ^ 15 := by
      rw [List.length_cons, Nat.pow_succ] at hb
      rw [Nat.mul_assoc, Nat.mul_comm 10]; exact hb
    have hac : (acc + 1) * 10 ≤ 10 ^ 15 := Nat.le_trans (Nat.le_mul_of_pos_right _ hp) hb2
    rw [Lib.parseUint10, if_pos hc, if_neg (by omega), if_neg (by omega), ih _ (fun x hx => hd x (List.mem_cons_of_mem _ hx)) ?_, List.foldl_cons, Nat.mul_comm acc 10]
    refine Nat.le_trans (Nat.mul_le_mul_right _ ?_) hb2
    omega
theorem dec_short {n : Int} (h0 : 0 ≤ n) (h1 : n ≤ 999999) : (dec n).length ≤ 6 := by
  have : ∀ (k u : Nat), u < 10 ^ (k + 1) → (Lib.decDigits u).length ≤ k + 1 := by
    intro k
    induction k with
    | zero => intro u hu; rw [Lib.decDigits_one (by simpa using hu)]; simp
    | succ k ih =>
      intro u hu
      by_cases c : u < 10
      · rw [Lib.decDigits_one c]; simp
      · rw [Lib.decDigits, dif_neg c, List.length_append]
        have := ih (u / 10) (by rw [Nat.pow_succ] at hu; omega)
        simp only [List.length_cons, List.length_nil]; omega
  exact this 5 n.toNat (by simp; omega)
theorem atoi_dec {n : Int} (h0 : 0 ≤ n) (h1 : n ≤ 999999) : Lib.atoiAll (dec n) = .ok n := by
  have hl := dec_short h0 h1
  have hv := dec_val h0
  have hd := dec_dig n
  cases hq : dec n with
  | nil => exact absurd hq (dec_ne n)
  | cons c r =>
    have hc := hd c (by rw [hq]; exact List.mem_cons_self ..)
    unfold Dig at hc
    rw [hq] at hl hv hd
    have hp : Lib.parseUint10 0 (c :: r) = .ok (valN (c :: r)) := parse_dig (c :: r) 0 hd (by
      rw [Nat.zero_add, Nat.one_mul]; exact Nat.pow_le_pow_right (by omega) (by omega))
    unfold Lib.atoiAll
    simp only
    rw [if_neg (by omega), Lib.parseMag, if_neg (by simp), hp]
    simp only
    rw [if_neg (by omega), if_neg (by omega), if_neg (by omega), hv]
/-- a number read back -/
def rn (w : List UInt8) : Int × Bool := if atOk w = true ∧ 0 ≤ atVal w ∧ dec (atVal w) = w then (atVal w, true) else (0, false)
theorem rn_yes {w : List UInt8} (h : (rn w).2 = true) : dec (rn w).1 = w ∧ 0 ≤ (rn w).1 := by
  unfold rn at h ⊢
  split
  · rename_i c; exact ⟨c.2.2, c.2.1⟩
  · rename_i c; rw [if_neg c] at h; cases h
theorem rn_dec {n : Int} (h0 : 0 ≤ n) (h1 : n ≤ 999999) : rn (dec n) = (n, true) := by
  have e := atoi_dec h0 h1
  have e1 : atVal (dec n) = n := by unfold atVal; rw [e]
  have e2 : atOk (dec n) = true := by unfold atOk; rw [e]
  rw [rn, e1, e2, if_pos ⟨rfl, h0, rfl⟩]
def sn (ws : List (List UInt8)) : List Int × Bool := if ∀ w ∈ ws, (rn w).2 = true then (ws.map fun w => (rn w).1, true) else ([], false)
theorem sn_yes {ws : List (List UInt8)} (h : (sn ws).2 = true) : nums (sn ws).1 = ws := by
  by_cases c : ∀ w ∈ ws, (rn w).2 = true
  · rw [sn, if_pos c, nums, List.map_map]
    conv => rhs; rw [← List.map_id ws]
    exact List.map_congr_left fun w hw => (rn_yes (c w hw)).1
  · rw [sn, if_neg c] at h; cases h
theorem sn_dec {xs : List Int} (h : ∀ x ∈ xs, 0 ≤ x ∧ x ≤ 999999) : sn (nums xs) = (xs, true) := by
  have c : ∀ w ∈ nums xs, (rn w).2 = true := by
    intro w hw
    obtain ⟨x, hx, rfl⟩ := List.mem_map.1 hw
    rw [rn_dec (h x hx).1 (h x hx).2]
  rw [sn, if_pos c, nums, List.map_map]
  congr 1
  conv => rhs; rw [← List.map_id xs]
  exact List.map_congr_left fun x hx => by simp only [Function.comp]; rw [rn_dec (h x hx).1 (h x hx).2]; rfl
/-- a text is the text of a packet -/
def Par (l : List UInt8) (p : PkP) : Prop := PkOk p ∧ l = pkTx p
theorem pk_three6 {p : PkP} (h : PkOk p) : ∀ x ∈ [p.message, p.part, p.parts], 0 ≤ x ∧ x ≤ 999999 := by
  obtain ⟨h1, h2, h3, _, _⟩ := h
  intro x hx
  simp only [List.mem_cons, List.not_mem_nil, or_false] at hx
  omega
theorem pk_nums6 {p : PkP} (h : PkOk p) : ∀ x ∈ p.signals, 0 ≤ x ∧ x ≤ 999999 := fun x hx => by have := h.2.2.2.2 x hx; omega
theorem line_no {xs : List Int} {s b : UInt8} (hb : b.toNat < 48 ∨ 57 < b.toNat) (hs : b ≠ s) : b ∉ lineOf xs [s] := by
  intro h
  have : ∀ ys : List (List UInt8), (∀ y ∈ ys, b ∉ y) → b ∉ Lib.join ys [s] := by
    intro ys hy
    cases ys with
    | nil => simp [Lib.join_nil]
    | cons y r =>
      rw [Lib.join_cons, Lib.joinTail]
      intro hm
      rcases List.mem_append.1 hm with hm | hm
      · exact hy y (List.mem_cons_self ..) hm
      · obtain ⟨l, hl, hbl⟩ := List.mem_flatten.1 hm
        obtain ⟨z, hz, rfl⟩ := List.mem_map.1 hl
        rcases List.mem_append.1 hbl with q | q
        · exact hs (List.mem_singleton.1 q)
        · exact hy z (List.mem_cons_of_mem _ hz) q
  refine this _ (fun y hy => ?_) h
  obtain ⟨x, _, rfl⟩ := List.mem_map.1 hy
  exact dec_not x hb
theorem line_split {xs : List Int} {s : UInt8} (hne : xs ≠ []) (hs : s.toNat < 48 ∨ 57 < s.toNat) : splitOn s (lineOf xs [s]) = nums xs := by
  refine splitOn_join (by simpa [nums] using hne) fun w hw => ?_
  obtain ⟨x, _, rfl⟩ := List.mem_map.1 hw
  exact dec_not x hs
theorem par_cut {l : List UInt8} {p : PkP} (h : Par l p) : Lib.cut l [58] = (lineOf [p.message, p.part, p.parts] [47], lineOf p.signals [32], true) := by
  rw [h.2, pkTx, List.append_assoc]
  exact cut_app (line_no (by decide) (by decide))
theorem sig_ne {p : PkP} (h : PkOk p) : p.signals ≠ [] := fun e => by have := h.2.2.2.1; rw [e] at this; simp at this
theorem par_all {l : List UInt8} {p : PkP} (h : Par l p) : sn (splitOn 47 (Lib.cut l [58]).1) = ([p.message, p.part, p.parts], true) ∧ sn (splitOn 32 (Lib.cut l [58]).2.1) = (p.signals, true) := by
  rw [par_cut h]
  simp only
  rw [line_split (by simp) (by decide), line_split (sig_ne h.1) (by decide), sn_dec (pk_three6 h.1), sn_dec (pk_nums6 h.1)]
  exact ⟨rfl, rfl⟩
theorem par_one {l : List UInt8} {p q : PkP} (hp : Par l p) (hq : Par l q) : p = q := by
  obtain ⟨a1, a2⟩ := par_all hp
  obtain ⟨b1, b2⟩ := par_all hq
  rw [a1] at b1
  rw [a2] at b2
  have e1 := (Prod.mk.inj b1).1
  have e2 := (Prod.mk.inj b2).1
  cases p; cases q
  simp at e1 e2
  simp [e1, e2]
noncomputable def ppOut (l : List UInt8) : PkP × Bool := @dite _ (∃ p, Par l p) (Classical.propDecidable _) (fun h => (Classical.choose h, true)) (fun _ => (⟨0, 0, 0, []⟩, false))
theorem pp_yes {l : List UInt8} {p : PkP} (h : Par l p) : ppOut l = (p, true) := by
  have hex : ∃ p, Par l p := ⟨p, h⟩
  rw [ppOut, dif_pos hex, par_one (Classical.choose_spec hex) h]
theorem pp_no {l : List UInt8} (h : ∀ p, ¬ Par l p) : ppOut l = (⟨0, 0, 0, []⟩, false) := by
  rw [ppOut, dif_neg (fun ⟨p, hp⟩ => h p hp)]
theorem three_of {xs : List Int} {a b c : Int} (hl : xs.length = 3) (h0 : xs[0]? = some a) (h1 : xs[1]? = some b) (h2 : xs[2]? = some c) : xs = [a, b, c] := by
  match xs, hl with
  | [x, y, z], _ => simp at h0 h1 h2; subst h0; subst h1; subst h2; rfl
/-- what the implementation finds is the packet -/
theorem impl_yes {l : List UInt8} {a b c : Int} (h1 : (sn (splitOn 47 (Lib.cut l [58]).1)).2 = true) (h2 : (sn (splitOn 32 (Lib.cut l [58]).2.1)).2 = true)
    (hl : (sn (splitOn 47 (Lib.cut l [58]).1)).1.length = 3) (ha : (sn (splitOn 47 (Lib.cut l [58]).1)).1[0]? = some a) (hb : (sn (splitOn 47 (Lib.cut l [58]).1)).1[1]? = some b) (hc : (sn (splitOn 47 (Lib.cut l [58]).1)).1[2]? = some c)
    (hp : PkOk ⟨a, b, c, (sn (splitOn 32 (Lib.cut l [58]).2.1)).1⟩) : ppOut l = (⟨a, b, c, (sn (splitOn 32 (Lib.cut l [58]).2.1)).1⟩, true) := by
  refine pp_yes ⟨hp, ?_⟩
  have e1 := sn_yes h1
  have e2 := sn_yes h2
  have e3 := three_of hl ha hb hc
  rcases cut_spec 58 l with ⟨_, h⟩ | ⟨_, h⟩
  · have j1 := (join_splitOn 47 (Lib.cut l [58]).1).1
    have j2 := (join_splitOn 32 (Lib.cut l [58]).2.1).1
    rw [← e1, e3] at j1
    rw [← e2] at j2
    have k1 : lineOf [a, b, c] [47] = (Lib.cut l [58]).1 := j1
    have k2 : lineOf (sn (splitOn 32 (Lib.cut l [58]).2.1)).1 [32] = (Lib.cut l [58]).2.1 := j2
    show l = lineOf [a, b, c] [47] ++ [58] ++ lineOf (sn (splitOn 32 (Lib.cut l [58]).2.1)).1 [32]
    rw [k1, k2]; exact h
  · rw [h] at e2
    have : nums (sn (splitOn 32 [])).1 = [[]] := e2
    cases hs : (sn (splitOn 32 [])).1 with
    | nil => rw [hs] at this; simp [nums] at this
    | cons x r =>
      rw [hs] at this
      have := (List.cons.inj this).1
      exact absurd this (dec_ne x)
theorem impl_no1 {l : List UInt8} (h : ¬ (sn (splitOn 47 (Lib.cut l [58]).1)).2 = true) : ppOut l = (⟨0, 0, 0, []⟩, false) := pp_no fun p hp => h (by rw [(par_all hp).1])
theorem impl_no2 {l : List UInt8} (h : ¬ (sn (splitOn 32 (Lib.cut l [58]).2.1)).2 = true) : ppOut l = (⟨0, 0, 0, []⟩, false) := pp_no fun p hp => h (by rw [(par_all hp).2])
theorem impl_no3 {l : List UInt8} (h : ¬ ((sn (splitOn 47 (Lib.cut l [58]).1)).1.length : Int) = 3) : ppOut l = (⟨0, 0, 0, []⟩, false) := pp_no fun p hp => h (by rw [(par_all hp).1]; rfl)
theorem impl_no4 {l : List UInt8} {a b c : Int} (hl : (sn (splitOn 47 (Lib.cut l [58]).1)).1.length = 3) (ha : (sn (splitOn 47 (Lib.cut l [58]).1)).1[0]? = some a) (hb : (sn (splitOn 47 (Lib.cut l [58]).1)).1[1]? = some b) (hc : (sn (splitOn 47 (Lib.cut l [58]).1)).1[2]? = some c)
    (hn : ¬ PkOk ⟨a, b, c, (sn (splitOn 32 (Lib.cut l [58]).2.1)).1⟩) : ppOut l = (⟨0, 0, 0, []⟩, false) := pp_no fun p hp => by
  obtain ⟨e1, e2⟩ := par_all hp
  have e3 := three_of hl ha hb hc
  rw [e1] at e3
  simp at e3
  obtain ⟨rfl, rfl, rfl⟩ := e3
  exact hn (by rw [e2]; exact hp.1)
/-- a canonical number below a million, as the specification reads it -/
def RdOk (w : List UInt8) : Prop := (1 ≤ w.length ∧ w.length ≤ 6) ∧ ¬ (w[0]? = some 48 ∧ 1 < w.length) ∧ ∀ c ∈ w, Dig c
noncomputable instance (w : List UInt8) : Decidable (RdOk w) := Classical.propDecidable _
noncomputable def rdOut (w : List UInt8) : Int := if RdOk w then (valN w : Int) else -1
theorem rd_dec {n : Int} (h0 : 0 ≤ n) (h1 : n ≤ 999999) : rdOut (dec n) = n := by
  have hl := dec_short h0 h1
  have ha := dec_all n.toNat
  have hp : 1 ≤ (dec n).length := by
    cases hq : dec n with
    | nil => exact absurd hq (dec_ne n)
    | cons a r => simp
  have hr : RdOk (dec n) := by
    refine ⟨⟨hp, hl⟩, fun hc => ?_, dec_dig n⟩
    by_cases c : n = 0
    · subst c
      have := hc.2
      rw [dec, Lib.decDigits_one (by decide)] at this
      simp at this
    · exact ha.2.2.2 (by omega) hc.1
  rw [rdOut, if_pos hr, dec_val h0]
theorem valN_lt (w : List UInt8) (h : ∀ c ∈ w, Dig c) : valN w < 10 ^ w.length := by
  have : ∀ k, valN (w.take k) < 10 ^ (w.take k).length := by
    intro k
    induction k with
    | zero => simp [valN]
    | succ k ih =>
      by_cases hk : k < w.length
      · have hx := List.getElem?_eq_getElem hk
        have hd := h _ (List.getElem_mem hk)
        unfold Dig at hd
        rw [snoc_get hx, valN_snoc, List.length_append, List.length_cons, List.length_nil, Nat.zero_add, Nat.pow_succ]
        omega
      · rw [List.take_of_length_le (by omega)]; rw [List.take_of_length_le (by omega)] at ih; exact ih
  have := this w.length
  rwa [List.take_length] at this
theorem rd_bd (w : List UInt8) : -1 ≤ rdOut w ∧ rdOut w ≤ 999999 := by
  unfold rdOut
  split
  · rename_i c
    have := valN_lt w c.2.2
    have h6 : 10 ^ w.length ≤ 10 ^ 6 := Nat.pow_le_pow_right (by omega) c.1.2
    omega
  · omega
def SgOk (o : List Int) : Prop := o.length ≤ 100 ∧ AllIn 0 63 o
noncomputable instance (o : List Int) : Decidable (SgOk o) := Classical.propDecidable _
noncomputable def sgp (r : List UInt8) : List Int × Bool := if r = [] then ([], true) else if SgOk ((splitOn 32 r).map rdOut) ∧ lineOf ((splitOn 32 r).map rdOut) [32] = r then ((splitOn 32 r).map rdOut, true) else ([], false)
theorem map_rd {xs : List Int} (h : ∀ x ∈ xs, 0 ≤ x ∧ x ≤ 999999) : (nums xs).map rdOut = xs := by
  rw [nums, List.map_map]
  conv => rhs; rw [← List.map_id xs]
  exact List.map_congr_left fun x hx => rd_dec (h x hx).1 (h x hx).2
theorem par_spec {l : List UInt8} {p : PkP} (h : Par l p) : splitOn 58 l = [lineOf [p.message, p.part, p.parts] [47], lineOf p.signals [32]] ∧ (splitOn 47 (lineOf [p.message, p.part, p.parts] [47])) = nums [p.message, p.part, p.parts] ∧ sgp (lineOf p.signals [32]) = (p.signals, true) := by
  have hn : lineOf p.signals [32] ≠ [] := by
    intro e
    have := line_split (s := 32) (sig_ne h.1) (by decide)
    rw [e] at this
    have e2 : nums p.signals = [[]] := this.symm
    cases hs : p.signals with
    | nil => exact sig_ne h.1 hs
    | cons x r => rw [hs] at e2; exact dec_ne x (List.cons.inj e2).1
  refine ⟨?_, line_split (by simp) (by decide), ?_⟩
  · rw [h.2, pkTx, List.append_assoc]
    have := splitOn_app (b := 58) (A := lineOf [p.message, p.part, p.parts] [47]) (B := lineOf p.signals [32]) (line_no (by decide) (by decide))
    rw [splitOn_none (line_no (by decide) (by decide))] at this
    exact this
  · have hm : (splitOn 32 (lineOf p.signals [32])).map rdOut = p.signals := by rw [line_split (sig_ne h.1) (by decide), map_rd (pk_nums6 h.1)]
    have hok : SgOk p.signals ∧ lineOf p.signals [32] = lineOf p.signals [32] := ⟨⟨by have := h.1.2.2.2.1; omega, fun x hx => by have := h.1.2.2.2.2 x hx; omega⟩, rfl⟩
    rw [sgp, if_neg hn, hm, if_pos hok]
/-- what the specification finds is the packet -/
theorem spec_no1 {l : List UInt8} (h : ¬ ((splitOn 58 l).length : Int) = 2) : ppOut l = (⟨0, 0, 0, []⟩, false) := pp_no fun p hp => h (by rw [(par_spec hp).1]; rfl)
theorem spec_two {l x y : List UInt8} {p : PkP} (hp : Par l p) (hx : (splitOn 58 l)[0]? = some x) (hy : (splitOn 58 l)[1]? = some y) : x = lineOf [p.message, p.part, p.parts] [47] ∧ y = lineOf p.signals [32] := by
  rw [(par_spec hp).1] at hx hy
  simp at hx hy
  exact ⟨hx.symm, hy.symm⟩
theorem spec_no2 {l x y : List UInt8} (hx : (splitOn 58 l)[0]? = some x) (hy : (splitOn 58 l)[1]? = some y) (h : ¬ ((splitOn 47 x).length : Int) = 3) : ppOut l = (⟨0, 0, 0, []⟩, false) := pp_no fun p hp => h (by rw [(spec_two hp hx hy).1, (par_spec hp).2.1]; rfl)
theorem spec_no3 {l x y : List UInt8} (hx : (splitOn 58 l)[0]? = some x) (hy : (splitOn 58 l)[1]? = some y) (h : ¬ (sgp y).2 = true) : ppOut l = (⟨0, 0, 0, []⟩, false) := pp_no fun p hp => h (by rw [(spec_two hp hx hy).2, (par_spec hp).2.2])
theorem spec_is {l x y a b c : List UInt8} {p : PkP} (hp : Par l p) (hx : (splitOn 58 l)[0]? = some x) (hy : (splitOn 58 l)[1]? = some y) (ha : (splitOn 47 x)[0]? = some a) (hb : (splitOn 47 x)[1]? = some b) (hc : (splitOn 47 x)[2]? = some c) : (⟨rdOut a, rdOut b, rdOut c, (sgp y).1⟩ : PkP) = p := by
  obtain ⟨e1, e2⟩ := spec_two hp hx hy
  rw [e1, (par_spec hp).2.1] at ha hb hc
  simp [nums] at ha hb hc
  subst ha; subst hb; subst hc
  have h3 := pk_three6 hp.1
  rw [e2, (par_spec hp).2.2, rd_dec (h3 _ (by simp)).1 (h3 _ (by simp)).2, rd_dec (h3 _ (by simp)).1 (h3 _ (by simp)).2, rd_dec (h3 _ (by simp)).1 (h3 _ (by simp)).2]
theorem spec_no4 {l x y a b c : List UInt8} (hx : (splitOn 58 l)[0]? = some x) (hy : (splitOn 58 l)[1]? = some y) (ha : (splitOn 47 x)[0]? = some a) (hb : (splitOn 47 x)[1]? = some b) (hc : (splitOn 47 x)[2]? = some c)
    (h : ¬ (PkOk ⟨rdOut a, rdOut b, rdOut c, (sgp y).1⟩ ∧ pkTx ⟨rdOut a, rdOut b, rdOut c, (sgp y).1⟩ = l)) : ppOut l = (⟨0, 0, 0, []⟩, false) := pp_no fun p hp => h (by rw [spec_is hp hx hy ha hb hc]; exact ⟨hp.1, hp.2.symm⟩)
end Go.Proofs.YtbikhpphdhffaaaGreatDoor
namespace Go.Proofs.YtbikhpphdhffaaaGreatDoor
open Go.Vc
set_option linter.all false
theorem bsize (s : ByteArray) : s.data.toList.length = s.size := Array.length_toList
theorem sidx_vc {s : ByteArray} {i : Int} {k : Nat} {x : UInt8} {K : Value → Prop} (hi : i = (k : Int)) (hx : s.data.toList[k]? = some x) (q : K (.int .u8 (x.toNat : Int))) : StrIdxVC (.string s) (.int .i64 i) K := by
  subst hi; exact ⟨s, .i64, k, x, rfl, rfl, hx, q⟩
theorem extract_tx (s : ByteArray) (a b : Nat) : s.extract a b = tx ((s.data.toList.drop a).take (b - a)) := by
  apply ByteArray.ext
  rw [ByteArray.data_extract, tx]
  apply Array.toList_inj.1
  simp [Array.toList_extract, List.extract_eq_take_drop]
theorem sslc_vc {s : ByteArray} {a b : Nat} {i j : Int} {K : Value → Prop} (hi : i = (a : Int)) (hj : j = (b : Int)) (h1 : a ≤ b) (h2 : b ≤ s.size) (q : K (.string (tx ((s.data.toList.drop a).take (b - a))))) : StrSlcVC (.string s) (some (.int .i64 i)) (some (.int .i64 j)) K := by
  subst hi; subst hj
  exact ⟨s, a, b, rfl, h1, h2, ⟨.i64, rfl⟩, ⟨.i64, rfl⟩, by rw [extract_tx]; exact q⟩
theorem sslc_end {s : ByteArray} {a : Nat} {i : Int} {K : Value → Prop} (hi : i = (a : Int)) (h1 : a ≤ s.size) (q : K (.string (tx (s.data.toList.drop a)))) : StrSlcVC (.string s) (some (.int .i64 i)) none K := by
  subst hi
  refine ⟨s, a, s.size, rfl, h1, Nat.le_refl _, rfl, ⟨.i64, rfl⟩, ?_⟩
  rw [extract_tx, List.take_of_length_le (by rw [List.length_drop, bsize]; omega)]
  exact q
theorem arith_u8 {n : Int} {K : Value → Prop} (h : 0 ≤ n ∧ n ≤ 255) (q : K (.int .u8 n)) : ArithVC .u8 .u8 n K := by
  refine ⟨rfl, ?_⟩
  have : IntKind.u8.wrap n = n := by rw [IntKind.wrap_u8]; omega
  rw [this]; exact q
theorem ifnil_at {l : List UInt8} {T : TypeId} {p : Value} {ng : Bool} {K : Value → Prop} (q : K (.bool (bif ng then !(atOk l) else atOk l))) : IfNilVC (atErr l T p) ng K := by
  refine ⟨atOk l, ?_, q⟩
  unfold atErr
  cases h : atOk l
  · right; exact ⟨⟨T, p, by simp⟩, rfl⟩
  · left; exact ⟨by simp, rfl⟩
end Go.Proofs.YtbikhpphdhffaaaGreatDoor
