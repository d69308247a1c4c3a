/- Slices that hold a list of data; rules for them. Condition: none. -/
import Derived.Test.YtbikhpphdhffaaaGreatDoorBase10
namespace Go.Vc

class Enc (α : Type) where
  sz : Nat
  cells : α → List Value
  len : ∀ a, (cells a).length = sz
  pos : 0 < sz
  one : ∀ a u, u ∈ cells a → u.oneCell' = true

instance encInt : Enc Int := ⟨1, fun n => [.int .i64 n], fun _ => rfl, by decide, fun _ _ h => by simp at h; subst h; rfl⟩
instance encBool : Enc Bool := ⟨1, fun b => [.bool b], fun _ => rfl, by decide, fun _ _ h => by simp at h; subst h; rfl⟩
instance encStr : Enc ByteArray := ⟨1, fun b => [.string b], fun _ => rfl, by decide, fun _ _ h => by simp at h; subst h; rfl⟩
/-- A byte. -/
structure By where
  n : Int
instance encBy : Enc By := ⟨1, fun b => [.int .u8 b.n], fun _ => rfl, by decide, fun _ _ h => by simp at h; subst h; rfl⟩
/-- A slice as a value. -/
structure SV where
  a : Option Addr
  n : Nat
  c : Nat
def SV.v (s : SV) : Value := .slice s.a s.n s.c
instance encSV : Enc SV := ⟨1, fun s => [.slice s.a s.n s.c], fun _ => rfl, by decide, fun _ _ h => by simp at h; subst h; rfl⟩

section
variable {α : Type} [Enc α]

def flat (xs : List α) : List Value := xs.flatMap Enc.cells
theorem flat_length (xs : List α) : (flat xs).length = xs.length * Enc.sz α := by
  induction xs with
  | nil => simp [flat]
  | cons x xs ih =>
    simp only [flat, List.flatMap_cons, List.length_append, Enc.len, List.length_cons] at *
    rw [ih, Nat.add_mul]; omega
theorem flat_append (xs ys : List α) : flat (xs ++ ys) = flat xs ++ flat ys := by simp [flat]
theorem flat_cons (x : α) (xs : List α) : flat (x :: xs) = Enc.cells x ++ flat xs := by simp [flat]
theorem flat_one (xs : List α) : ∀ u ∈ flat xs, u.oneCell' = true := by
  intro u hu
  simp only [flat, List.mem_flatMap] at hu
  obtain ⟨x, _, hx⟩ := hu
  exact Enc.one x u hx
theorem flat_get {xs : List α} {k : Nat} {x : α} (hx : xs[k]? = some x) (j : Nat) (hj : j < Enc.sz α) : (flat xs)[k * Enc.sz α + j]? = (Enc.cells x)[j]? := by
  induction xs generalizing k with
  | nil => simp at hx
  | cons y ys ih =>
    rw [flat_cons]
    cases k with
    | zero =>
      simp at hx; subst hx
      simp only [Nat.zero_mul, Nat.zero_add]
      rw [List.getElem?_append_left (by rw [Enc.len]; exact hj)]
    | succ k =>
      rw [List.getElem?_append_right (by rw [Enc.len, Nat.add_mul]; omega), Enc.len]
      rw [show (k + 1) * Enc.sz α + j - Enc.sz α = k * Enc.sz α + j by rw [Nat.add_mul]; omega]
      exact ih (by simpa using hx)
theorem flat_set {xs : List α} {k : Nat} (hk : k < xs.length) (x : α) : flat (xs.set k x) = spl (flat xs) (k * Enc.sz α) (Enc.cells x) := by
  induction xs generalizing k with
  | nil => simp at hk
  | cons y ys ih =>
    cases k with
    | zero =>
      simp only [List.set_cons_zero, flat_cons, spl, Nat.zero_mul, List.take_zero, List.nil_append, Nat.zero_add]
      rw [List.drop_append_of_le_length (by rw [Enc.len, Enc.len]; omega)]
      rw [List.drop_of_length_le (by rw [Enc.len, Enc.len]; omega)]
      simp
    | succ k =>
      simp only [List.set_cons_succ, flat_cons]
      rw [ih (by simpa using hk)]
      simp only [spl]
      rw [show (k + 1) * Enc.sz α = (Enc.cells y).length + k * Enc.sz α by rw [Enc.len, Nat.add_mul]; omega]
      rw [List.take_length_add_append, Nat.add_assoc, List.drop_length_add_append]
      simp [List.append_assoc]
theorem flat_take (xs : List α) (k : Nat) : flat (xs.take k) = (flat xs).take (k * Enc.sz α) := by
  induction xs generalizing k with
  | nil => simp [flat]
  | cons y ys ih =>
    cases k with
    | zero => simp [flat]
    | succ k =>
      simp only [List.take_succ_cons, flat_cons, ih]
      rw [show (k + 1) * Enc.sz α = (Enc.cells y).length + k * Enc.sz α by rw [Enc.len, Nat.add_mul]; omega]
      rw [List.take_length_add_append]
theorem flat_drop (xs : List α) (k : Nat) : flat (xs.drop k) = (flat xs).drop (k * Enc.sz α) := by
  induction xs generalizing k with
  | nil => simp [flat]
  | cons y ys ih =>
    cases k with
    | zero => simp [flat]
    | succ k =>
      simp only [List.drop_succ_cons, flat_cons, ih]
      rw [show (k + 1) * Enc.sz α = (Enc.cells y).length + k * Enc.sz α by rw [Enc.len, Nat.add_mul]; omega]
      rw [List.drop_length_add_append]
end

/-! ### Slices -/
def sblk : Value → Nat
  | .slice (some a) _ _ => a.block
  | _ => 0
def soff : Value → Nat
  | .slice (some a) _ _ => a.off
  | _ => 0
/-- the block of a slice that has capacity -/
def blks : Value → List Nat
  | .slice (some a) _ (_ + 1) => [a.block]
  | _ => []
theorem blks_pos {a : Addr} {n c : Nat} (h : 0 < c) : blks (.slice (some a) n c) = [a.block] := by
  cases c with
  | zero => omega
  | succ c => rfl
theorem blks_zero {a : Option Addr} {n : Nat} : blks (.slice a n 0) = [] := by cases a <;> rfl
theorem blks_sub {a : Addr} {n c b : Nat} (h : b ∈ blks (.slice (some a) n c)) : b = a.block := by
  cases c with
  | zero => simp [blks] at h
  | succ c => simpa [blks] using h

/-- all blocks of v are from n on -/
def Fr (n : Nat) (v : Value) : Prop := ∀ b ∈ blks v, n ≤ b
theorem Fr.nil (n : Nat) : Fr n (.slice none 0 0) := fun b hb => by simp [blks] at hb
theorem Fr.mono {n m : Nat} {v : Value} (h : Fr m v) (hm : n ≤ m) : Fr n v := fun b hb => Nat.le_trans hm (h b hb)
theorem Fr.app {n m : Nat} {v v' : Value} (h : Fr n v) (hv : ∀ b ∈ blks v', b ∈ blks v ∨ m ≤ b) (hm : n ≤ m) : Fr n v' := fun b hb => (hv b hb).elim (h b) (fun e => Nat.le_trans hm e)
theorem Fr.out {n m : Nat} {v : Value} (h : Fr n v) (hm : m < n) : m ∉ blks v := fun hb => by have := h m hb; omega
theorem Fr.apart {n : Nat} {v u : Value} (h : Fr n v) (hu : ∀ b ∈ blks u, b < n) : ∀ b ∈ blks u, b ∉ blks v := fun b hb hv => by have := h b hv; have := hu b hb; omega
theorem Fr.apart' {n : Nat} {v u : Value} (h : Fr n v) (hu : ∀ b ∈ blks u, b < n) : ∀ b ∈ blks v, b ∉ blks u := fun b hb hv => by have := h b hb; have := hu b hv; omega

/-- In heap h the value v is a slice that holds xs; 'own': its block may be written. -/
def SlX {α : Type} [Enc α] (own : Bool) (h : Heap) (v : Value) (xs : List α) : Prop :=
  ∃ a c, v = .slice a xs.length c ∧ ((xs = [] ∧ c = 0) ∨ ∃ ad, a = some ad ∧ 0 < c ∧ ad.spot = none ∧ xs.length ≤ c ∧ c ≤ maxLen ∧
    ∃ C T fz, h[ad.block]? = some (.cells C T fz) ∧ (own = true → fz = (0, 0)) ∧ ad.off + c * Enc.sz α ≤ C.size ∧ (C.toList.drop ad.off).take (xs.length * Enc.sz α) = flat xs)
abbrev Sl {α : Type} [Enc α] (h : Heap) (v : Value) (xs : List α) : Prop := SlX false h v xs
abbrev SlO {α : Type} [Enc α] (h : Heap) (v : Value) (xs : List α) : Prop := SlX true h v xs

section
variable {α : Type} [Enc α] {own : Bool} {h : Heap} {v : Value} {xs : List α}

theorem SlX.toSl (hs : SlX own h v xs) : Sl h v xs := by
  obtain ⟨a, c, hv, hs⟩ := hs
  refine ⟨a, c, hv, hs.imp id ?_⟩
  rintro ⟨ad, h0, h1, h2, h3, h4, C, T, fz, h5, h6, h7⟩
  exact ⟨ad, h0, h1, h2, h3, h4, C, T, fz, h5, (by simp), h7⟩
theorem SlX.nil (own : Bool) (h : Heap) : SlX own h (.slice none 0 0) ([] : List α) := ⟨none, 0, rfl, .inl ⟨rfl, rfl⟩⟩
theorem SlX.empty (own : Bool) (h : Heap) (a : Option Addr) : SlX own h (.slice a 0 0) ([] : List α) := ⟨a, 0, rfl, .inl ⟨rfl, rfl⟩⟩
theorem SlX.len_le (hs : SlX own h v xs) : xs.length ≤ maxLen := by
  obtain ⟨a, c, _, hs⟩ := hs
  rcases hs with ⟨rfl, _⟩ | ⟨ad, _, _, _, h1, h2, _⟩
  · simp [maxLen]
  · exact Nat.le_trans h1 h2
theorem SlX.len63 (hs : SlX own h v xs) : (xs.length : Int) ≤ 9223372036854775807 := by
  have h1 := hs.len_le
  simp only [maxLen] at h1
  omega
theorem SlX.lt (hs : SlX own h v xs) : ∀ b ∈ blks v, b < h.size := by
  obtain ⟨a, c, rfl, hs⟩ := hs
  rcases hs with ⟨rfl, rfl⟩ | ⟨ad, rfl, h1, h2, h3, h4, C, T, fz, h5, _⟩
  · simp [blks_zero]
  · intro b hb
    have := blks_sub hb; subst this
    exact (Array.getElem?_eq_some_iff.1 h5).1
theorem SlX.shape (hs : SlX own h v xs) : ∃ a c, v = .slice a xs.length c := by
  obtain ⟨a, c, hv, _⟩ := hs; exact ⟨a, c, hv⟩
theorem SlX.cellsv (hs : SlX own h v xs) : v.cells.toList = [v] := by
  obtain ⟨a, c, rfl, _⟩ := hs; rfl
theorem SlX.onev (hs : SlX own h v xs) : ∀ u ∈ [v], u.oneCell' = true := by
  obtain ⟨a, c, rfl, _⟩ := hs; simp [Value.oneCell']
theorem SlX.blk (hs : SlX own h v xs) (hx : 0 < xs.length) : blks v = [sblk v] := by
  obtain ⟨a, c, rfl, hs⟩ := hs
  rcases hs with ⟨rfl, rfl⟩ | ⟨ad, rfl, h1, _⟩
  · simp at hx
  · rw [blks_pos h1]; rfl
theorem SlX.keep (hs : SlX own h v xs) {h' : Heap} (hk : ∀ b ∈ blks v, h'[b]? = h[b]?) : SlX own h' v xs := by
  obtain ⟨a, c, rfl, hs⟩ := hs
  refine ⟨a, c, rfl, ?_⟩
  rcases hs with hs | ⟨ad, rfl, h1, h2, h3, h4, C, T, fz, h5, h6⟩
  · exact .inl hs
  · exact .inr ⟨ad, rfl, h1, h2, h3, h4, C, T, fz, (hk _ (by rw [blks_pos h1]; simp)).trans h5, h6⟩
theorem SlX.ext (hs : SlX own h v xs) {h' : Heap} (e : Ext h h') : SlX own h' v xs := hs.keep fun b hb => e.blk b (hs.lt b hb)
theorem SlX.mod (hs : SlX own h v xs) {h' : Heap} {bs : List Nat} (m : Mod bs h h') (hd : ∀ b ∈ blks v, b ∉ bs) : SlX own h' v xs :=
  hs.keep fun b hb => m.blk b (hs.lt b hb) (hd b hb)

/-- len -/
theorem SlX.lenVC (hs : SlX own h v xs) {K : Value → Prop} (hk : K (.int .i64 (xs.length : Int))) : LenVC v K := by
  obtain ⟨a, c, rfl, _⟩ := hs
  exact ⟨a, _, c, rfl, hk⟩
theorem LenVC.lit {a : Option Addr} {n c : Nat} {K : Value → Prop} (hk : K (.int .i64 (n : Int))) : LenVC (.slice a n c) K := ⟨a, n, c, rfl, hk⟩

/-- the address of an element -/
theorem SlX.idx (hs : SlX own h v xs) {ki : IntKind} {i : Int} {k : Nat} (hi : i = (k : Int)) (hk : k < xs.length) {sz : Nat} {K : Value → Prop} (h1 : K (.pointer (some ⟨sblk v, soff v + k * sz, none⟩))) :
    IdxVC sz v (.int ki i) K := by
  obtain ⟨a, c, rfl, hs⟩ := hs
  rcases hs with ⟨rfl, _⟩ | ⟨ad, rfl, _, h0, _⟩
  · simp at hk
  · obtain ⟨b, o, s⟩ := ad
    simp only at h0
    subst h0; subst hi
    exact ⟨b, o, _, c, ki, (k : Int), rfl, rfl, by omega, by omega, by simpa [sblk, soff] using h1⟩
theorem SlX.cell (hs : SlX own h v xs) {k : Nat} {x : α} (hx : xs[k]? = some x) {j : Nat} (hj : j < Enc.sz α) : hcell h ⟨sblk v, soff v + k * Enc.sz α + j, none⟩ = (Enc.cells x)[j]? := by
  obtain ⟨a, c, rfl, hs⟩ := hs
  have hlt := (List.getElem?_eq_some_iff.1 hx).1
  rcases hs with ⟨rfl, _⟩ | ⟨ad, rfl, h0, h1, h2, h3, C, T, fz, h4, h5, h6, h7⟩
  · simp at hlt
  · have hm : k * Enc.sz α + j < xs.length * Enc.sz α := by
      have : (k + 1) * Enc.sz α ≤ xs.length * Enc.sz α := Nat.mul_le_mul_right _ hlt
      rw [Nat.add_mul] at this; omega
    have h8 := flat_get hx j hj
    rw [← h7, List.getElem?_take, if_pos hm, List.getElem?_drop] at h8
    simp only [hcell, sblk, soff, h4]
    simp only [Option.isSome_none, Bool.false_eq_true, if_false]
    rw [← h8]
    simp [Nat.add_assoc]
/-- a load of a part of an element: one cell -/
theorem SlX.load (hs : SlX own h v xs) {k : Nat} {x : α} (hx : xs[k]? = some x) {j : Nat} {u : Value} (hu : (Enc.cells x)[j]? = some u) {o : Nat} (ho : o = soff v + k * Enc.sz α + j) {K : Value → Prop} (hk : K u) :
    LoadVC h (.pointer (some ⟨sblk v, o, none⟩)) none K := by
  subst ho
  have hj : j < Enc.sz α := by rw [← Enc.len x]; exact (List.getElem?_eq_some_iff.1 hu).1
  exact ⟨_, rfl, u, by rw [hs.cell hx hj]; exact hu, hk⟩
/-- a load of an element of one cell -/
theorem SlX.load1 (hs : SlX own h v xs) {k : Nat} {x : α} (hx : xs[k]? = some x) {u : Value} (hu : Enc.cells x = [u]) {K : Value → Prop} (hk : K u) :
    LoadVC h (.pointer (some ⟨sblk v, soff v + k * 1, none⟩)) none K := by
  have h1 : Enc.sz α = 1 := by rw [← Enc.len x, hu]; rfl
  exact hs.load hx (j := 0) (by rw [hu]; rfl) (by rw [h1]; rfl) hk
/-- a load of a whole element -/
theorem SlX.loadN (hs : SlX own h v xs) {k : Nat} {x : α} (hx : xs[k]? = some x) {n : Nat} (hn : n = Enc.sz α) {K : Value → Prop} (hk : K (.agg (Enc.cells x).toArray)) :
    LoadVC h (.pointer (some ⟨sblk v, soff v + k * n, none⟩)) (some n) K := by
  subst hn
  refine ⟨_, rfl, Enc.cells x, Enc.len x, fun j u hu => ?_, hk⟩
  have hj : j < Enc.sz α := by rw [← Enc.len x]; exact (List.getElem?_eq_some_iff.1 hu).1
  rw [addr_add, hs.cell hx hj]
  exact hu

theorem spl_mid (A D B : List Value) (j : Nat) (l : List Value) (h : j + l.length ≤ D.length) : spl (A ++ D ++ B) (A.length + j) l = A ++ spl D j l ++ B := by
  simp only [spl]
  rw [List.append_assoc A D B, List.take_length_add_append, Nat.add_assoc, List.drop_length_add_append]
  rw [List.take_append_of_le_length (by omega), List.drop_append_of_le_length (by omega)]
  simp [List.append_assoc]
theorem spl_all (A D B : List Value) (l : List Value) (h : l.length = D.length) : spl (A ++ D ++ B) A.length l = A ++ l ++ B := by
  have := spl_mid A D B 0 l (by omega)
  simp only [Nat.add_zero] at this
  rw [this]
  congr 2
  simp [spl, h]
theorem cut3 (C : List Value) (p d : Nat) : C = C.take p ++ (C.drop p).take d ++ C.drop (p + d) := by
  rw [List.append_assoc, ← List.drop_drop, List.take_append_drop, List.take_append_drop]
/-- what is seen of a row through a window when something inside the window is replaced -/
theorem spl_window (C : List Value) (o m p : Nat) (l : List Value) (hp : p + l.length ≤ m) (h : o + m ≤ C.length) : ((spl C (o + p) l).drop o).take m = spl ((C.drop o).take m) p l := by
  have e := cut3 C o m
  have hl : (C.take o).length = o := by simp; omega
  have hd : ((C.drop o).take m).length = m := by simp; omega
  have hs : (spl ((C.drop o).take m) p l).length = m := by rw [spl_length _ _ _ (by omega), hd]
  have h2 := spl_mid (C.take o) ((C.drop o).take m) (C.drop (o + m)) p l (by omega)
  rw [← e, hl] at h2
  rw [h2, List.append_assoc, List.drop_append_of_le_length (by omega), List.drop_of_length_le (by omega), List.nil_append, List.take_append_of_le_length (by omega), List.take_of_length_le (by omega)]

/-- a store into an element -/
theorem SlX.store (hs : SlO h v xs) {k : Nat} {x x' : α} (hx : xs[k]? = some x) {j : Nat} {us : List Value} {y : Value} {n o : Nat} (hy : y.cells.toList = us) (hn : us.length = n) (ho : o = soff v + k * Enc.sz α + j)
    (hj : j + us.length ≤ Enc.sz α) (hx' : Enc.cells x' = spl (Enc.cells x) j us) (h1 : ∀ u ∈ us, u.oneCell' = true) {K : Heap → Prop}
    (hk : ∀ h', Mod (blks v) h h' → h'.size = h.size → SlO h' v (xs.set k x') → K h') : StoreVC h n (.pointer (some ⟨sblk v, o, none⟩)) y K := by
  obtain ⟨a, c, rfl, hs⟩ := hs
  have hlt := (List.getElem?_eq_some_iff.1 hx).1
  rcases hs with ⟨rfl, _⟩ | ⟨ad, rfl, h0, h1', h2, h3, C, T, fz, h4, h5, h6, h7⟩
  · simp at hlt
  · obtain rfl := h5 rfl
    subst hn
    have hm : k * Enc.sz α + (j + us.length) ≤ xs.length * Enc.sz α := by
      have : (k + 1) * Enc.sz α ≤ xs.length * Enc.sz α := Nat.mul_le_mul_right _ hlt
      rw [Nat.add_mul] at this; omega
    have hc : xs.length * Enc.sz α ≤ c * Enc.sz α := Nat.mul_le_mul_right _ h2
    simp only [soff] at ho
    refine ⟨ad.block, o, C, T, rfl, h4, by rw [← hy]; simp, by omega, by rw [hy]; exact h1, hk _ (by rw [blks_pos h0]; exact hput_mod h _ _ T) (hput_size _ _ _ _) ?_⟩
    rw [hy]
    refine ⟨some ad, c, by simp, .inr ⟨ad, rfl, h0, h1', by simpa using h2, h3, (spl C.toList o us).toArray, T, (0, 0), hput_get (Array.getElem?_eq_some_iff.1 h4).1 _ T, fun _ => rfl, ?_, ?_⟩⟩
    · simp only [List.size_toArray]; rw [spl_length _ _ _ (by simp; omega)]; simpa using h6
    · rw [List.length_set, flat_set hlt, hx']
      have e0 : o = ad.off + (k * Enc.sz α + j) := by omega
      rw [e0, spl_window _ _ _ _ _ (by omega) (by simp; omega), h7]
      have hw : k * Enc.sz α + Enc.sz α ≤ xs.length * Enc.sz α := by
        have : (k + 1) * Enc.sz α ≤ xs.length * Enc.sz α := Nat.mul_le_mul_right _ hlt
        rw [Nat.add_mul] at this; omega
      have hfl : (flat xs).length = xs.length * Enc.sz α := flat_length xs
      have e1 := cut3 (flat xs) (k * Enc.sz α) (Enc.sz α)
      have e2 : ((flat xs).drop (k * Enc.sz α)).take (Enc.sz α) = Enc.cells x := by
        rw [← flat_drop]
        have : xs.drop k = x :: xs.drop (k + 1) := by
          rw [List.drop_eq_getElem_cons hlt]
          congr 1
          exact (List.getElem?_eq_some_iff.1 hx).2
        rw [this, flat_cons, List.take_append_of_le_length (by rw [Enc.len]; omega), List.take_of_length_le (by rw [Enc.len]; omega)]
      rw [e2] at e1
      have hA : ((flat xs).take (k * Enc.sz α)).length = k * Enc.sz α := by simp; omega
      have h3' := spl_mid ((flat xs).take (k * Enc.sz α)) (Enc.cells x) ((flat xs).drop (k * Enc.sz α + Enc.sz α)) j us (by rw [Enc.len]; omega)
      have h4' := spl_all ((flat xs).take (k * Enc.sz α)) (Enc.cells x) ((flat xs).drop (k * Enc.sz α + Enc.sz α)) (spl (Enc.cells x) j us) (spl_length _ _ _ (by rw [Enc.len]; omega))
      rw [← e1, hA] at h3' h4'
      rw [h3', h4']
/-- a store into an element of one cell -/
theorem SlX.store1 (hs : SlO h v xs) {k : Nat} (hk : k < xs.length) {x' : α} {y : Value} (hy : y.cells.toList = Enc.cells x') (h1 : Enc.sz α = 1) {K : Heap → Prop}
    (hK : ∀ h', Mod (blks v) h h' → h'.size = h.size → SlO h' v (xs.set k x') → K h') : StoreVC h 1 (.pointer (some ⟨sblk v, soff v + k * 1, none⟩)) y K := by
  refine hs.store (k := k) (x := xs[k]) (x' := x') (j := 0) (by simp [hk]) hy (by rw [Enc.len, h1]) (by rw [h1]; omega) (by rw [Enc.len]; omega) ?_ (fun u hu => Enc.one x' u hu) hK
  simp [spl, Enc.len, List.drop_of_length_le]

/-! ### make, append -/
theorem SlX.make (n : Nat) (z : α) {k k' : IntKind} {e : TypeId} {sz bytes : Nat} {zero : List Value} (hz : zero = Enc.cells z) (hsz : sz = Enc.sz α) (hn : n ≤ maxLen) (hb : n * bytes ≤ 281474976710656) {K : Value → Heap → Prop}
    (hk : ∀ v h', Ext h h' → h'.size = h.size + 1 → SlO h' v (List.replicate n z) → Fr h.size v → K v h') : MkVC h e sz bytes zero (.int k (n : Int)) (.int k' (n : Int)) K := by
  subst hz; subst hsz
  refine ⟨n, n, k, k', rfl, rfl, Nat.le_refl _, hn, hb, fun C hC hz => hk _ _ (Ext.push h _) (by simp) ?_ (fun b hb => Nat.le_of_eq (blks_sub hb).symm)⟩
  by_cases hn0 : n = 0
  · subst hn0
    exact SlX.empty true _ _
  refine ⟨some ⟨h.size, 0, none⟩, n, by simp, .inr ⟨_, rfl, by omega, rfl, by simp, hn, C.toArray, e, (0, 0), by simp, fun _ => rfl, by simp [hC], ?_⟩⟩
  simp only [List.drop_zero, List.length_replicate]
  rw [List.take_of_length_le (by omega)]
  apply List.ext_getElem?
  intro i
  by_cases hi : i < n * Enc.sz α
  · rw [hz i hi, Enc.len]
    have hp : 0 < Enc.sz α := Enc.pos
    have hq : i / Enc.sz α < n := Nat.div_lt_of_lt_mul (by rw [Nat.mul_comm]; exact hi)
    have hr : i % Enc.sz α < Enc.sz α := Nat.mod_lt _ hp
    have := flat_get (xs := List.replicate n z) (k := i / Enc.sz α) (x := z) (by simp [hq]) (i % Enc.sz α) hr
    rw [← this]
    congr 1
    rw [Nat.mul_comm]; exact Nat.div_add_mod i _
  · rw [List.getElem?_eq_none (by omega), List.getElem?_eq_none (by rw [flat_length]; simp; omega)]

theorem row_of (hs : SlX own h v xs) : ∃ a c, v = .slice a xs.length c ∧ RowAt h a (flat xs) := by
  obtain ⟨a, c, rfl, hs⟩ := hs
  refine ⟨a, c, rfl, ?_⟩
  rcases hs with ⟨rfl, _⟩ | ⟨ad, rfl, h0, h1, h2, h3, C, T, fz, h4, h5, h6, h7⟩
  · cases a with
    | none => rfl
    | some ad => intro j u hu; simp [flat] at hu
  · intro j u hu
    obtain ⟨b, o, s⟩ := ad
    simp only at h1 h4 h6 h7
    subst h1
    rw [addr_add]
    simp only [hcell, h4]
    simp only [Option.isSome_none, Bool.false_eq_true, if_false]
    rw [← h7, List.getElem?_take] at hu
    split at hu
    · rw [List.getElem?_drop] at hu
      simpa using hu
    · cases hu

/-- append to a slice that may be written; what is appended is any slice -/
theorem SlX.append (hs : SlO h v xs) {own' : Bool} {x : Value} {ys : List α} (hx : SlX own' h x ys) {e : TypeId} {sz bytes : Nat} (hsz : sz = Enc.sz α) (hl : xs.length + ys.length ≤ maxLen)
    (hb : (xs.length + ys.length) * bytes ≤ 140737488355328) {K : Value → Heap → Prop}
    (hk : ∀ v' h', Mod (blks v) h h' → SlO h' v' (xs ++ ys) → (∀ b ∈ blks v', b ∈ blks v ∨ h.size ≤ b) → K v' h') : AppVC h e sz bytes v x K := by
  subst hsz
  obtain ⟨b, cb, rfl, hyr⟩ := row_of hx
  have hgrow : ∀ (c' : Nat) (rest : List Value), xs.length + ys.length ≤ c' → c' ≤ maxLen → rest.length = (c' - (xs.length + ys.length)) * Enc.sz α →
      K (.slice (some ⟨h.size, 0, none⟩) (xs.length + ys.length) c') (h.push (.cells (flat xs ++ flat ys ++ rest).toArray e)) := by
    intro c' rest hc hm hr
    refine hk _ _ (Mod.of_ext (Ext.push h _) _) ?_ (fun b hb => .inr (Nat.le_of_eq (blks_sub hb).symm))
    by_cases hc0 : c' = 0
    · subst hc0
      have hx0 : xs = [] := List.eq_nil_of_length_eq_zero (by omega)
      have hy0 : ys = [] := List.eq_nil_of_length_eq_zero (by omega)
      subst hx0; subst hy0
      exact SlX.empty true _ _
    refine ⟨some ⟨h.size, 0, none⟩, c', by simp, .inr ⟨_, rfl, by omega, rfl, by simpa using hc, hm, (flat xs ++ flat ys ++ rest).toArray, e, (0, 0), by simp, fun _ => rfl, ?_, ?_⟩⟩
    · simp only [List.size_toArray, List.length_append, flat_length, hr, Nat.zero_add]
      rw [← Nat.add_mul, ← Nat.add_mul, Nat.add_sub_cancel' hc]
      exact Nat.le_refl _
    · simp only [List.drop_zero]
      rw [← flat_append, List.take_append_of_le_length (by rw [flat_length]; exact Nat.le_refl _), List.take_of_length_le (by rw [flat_length]; exact Nat.le_refl _)]
  obtain ⟨a, c, rfl, hrow⟩ := row_of hs
  refine ⟨a, xs.length, c, b, ys.length, cb, flat xs, flat ys, rfl, rfl, flat_length xs, flat_length ys, hrow, hyr, hl, hb, flat_one ys, fun hroom => ?_, fun _ => hgrow⟩
  obtain ⟨a', c', hv, hs'⟩ := hs
  simp only [Value.slice.injEq] at hv
  obtain ⟨rfl, -, rfl⟩ := hv
  rcases hs' with ⟨hx0, hc0⟩ | ⟨ad, rfl, h0, h1, h2, h3, C, T, fz, h4, h5, h6, h7⟩
  · left
    have hy0 : ys = [] := List.eq_nil_of_length_eq_zero (by omega)
    subst hy0; subst hx0; subst hc0
    exact ⟨rfl, hk _ _ (Mod.refl _ h) (SlX.empty true h _) (fun b hb => .inl hb)⟩
  · right
    obtain ⟨g, o, s⟩ := ad
    simp only at h1 h4 h6 h7
    subst h1
    obtain rfl := h5 rfl
    have hroom' : (xs.length + ys.length) * Enc.sz α ≤ c * Enc.sz α := Nat.mul_le_mul_right _ hroom
    have hfy : (flat ys).length = ys.length * Enc.sz α := flat_length ys
    have hfx : (flat xs).length = xs.length * Enc.sz α := flat_length xs
    have hadd : (xs.length + ys.length) * Enc.sz α = xs.length * Enc.sz α + ys.length * Enc.sz α := Nat.add_mul _ _ _
    refine ⟨g, o, C, T, rfl, h4, by omega, hk _ _ (by rw [blks_pos h0]; exact hput_mod h _ _ T) ?_ (fun b hb => .inl (by rw [blks_pos h0] at hb ⊢; exact hb))⟩
    refine ⟨some ⟨g, o, none⟩, c, by simp, .inr ⟨_, rfl, h0, rfl, by simpa using hroom, h3, (spl C.toList (o + xs.length * Enc.sz α) (flat ys)).toArray, T, (0, 0), hput_get (Array.getElem?_eq_some_iff.1 h4).1 _ T, fun _ => rfl, ?_, ?_⟩⟩
    · simp only [List.size_toArray]; rw [spl_length _ _ _ (by simp; omega)]; simpa using h6
    · rw [List.length_append, hadd, spl_window _ _ _ _ _ (by omega) (by simp; omega), flat_append]
      have e1 : ((C.toList.drop o).take (xs.length * Enc.sz α + ys.length * Enc.sz α)) = flat xs ++ ((C.toList.drop o).drop (xs.length * Enc.sz α)).take (ys.length * Enc.sz α) := by
        rw [List.take_add, h7]
      rw [e1]
      simp only [spl]
      rw [List.take_append_of_le_length (by omega), List.take_of_length_le (by omega), List.drop_of_length_le (by simp; omega)]
      simp

/-- a new row of given elements ('[]T{..}', and what 'append(s, x)' lays first) -/
theorem SlX.row (ys : List α) {cells : List Value} {e : TypeId} {n : Nat} (hc : cells = flat ys) (hn : n = ys.length) (hm : ys.length ≤ maxLen) {K : Value → Heap → Prop}
    (hk : ∀ v h', Ext h h' → h'.size = h.size + 1 → SlO h' v ys → Fr h.size v → K v h') : RowVC h cells e n K := by
  subst hc; subst hn
  refine ⟨hk _ _ (Ext.push h _) (by simp) ?_ (fun b hb => Nat.le_of_eq (blks_sub hb).symm)⟩
  by_cases hy : ys = []
  · subst hy; exact SlX.empty true _ _
  have hp : 0 < ys.length := List.length_pos_iff.2 hy
  exact ⟨some ⟨h.size, 0, none⟩, ys.length, rfl, .inr ⟨_, rfl, hp, rfl, Nat.le_refl _, hm, (flat ys).toArray, e, (0, 0), by simp, fun _ => rfl, by simp [flat_length], by simp [← flat_length]⟩⟩

/-- copy into a slice that may be written -/
theorem SlX.copy (hs : SlO h v xs) {own' : Bool} {x : Value} {ys : List α} (hx : SlX own' h x ys) {sz : Nat} (hsz : sz = Enc.sz α) {K : Value → Heap → Prop}
    (hk : ∀ h', Mod (blks v) h h' → h'.size = h.size → SlO h' v (ys.take xs.length ++ xs.drop ys.length) → K (.int .i64 (min ys.length xs.length : Nat)) h') : CopyVC h sz v x K := by
  subst hsz
  obtain ⟨b, cb, rfl, hyr⟩ := row_of hx
  have hrow : RowAt h b (flat (ys.take xs.length)) := by
    rw [flat_take]
    cases b with
    | none => have : flat ys = [] := hyr; rw [this]; simp [RowAt]
    | some b =>
      intro j u hu
      rw [List.getElem?_take] at hu
      split at hu
      · exact hyr j u hu
      · cases hu
  have hone := flat_one (ys.take xs.length)
  have hlen : (flat (ys.take xs.length)).length = min ys.length xs.length * Enc.sz α := by rw [flat_length, List.length_take, Nat.min_comm]
  obtain ⟨a, c, rfl, hs'⟩ := hs
  rcases hs' with ⟨rfl, rfl⟩ | ⟨ad, rfl, h0, h1, h2, h3, C, T, fz, h4, h5, h6, h7⟩
  · refine ⟨a, 0, 0, b, ys.length, cb, [], rfl, rfl, by simp, by cases b <;> simp [RowAt], by simp, .inl ⟨rfl, ?_⟩⟩
    exact hk h (Mod.refl _ h) rfl (by simpa using SlX.empty true h a)
  · obtain ⟨g, o, s⟩ := ad
    simp only at h1 h4 h6 h7
    subst h1
    obtain rfl := h5 rfl
    have hc : xs.length * Enc.sz α ≤ c * Enc.sz α := Nat.mul_le_mul_right _ h2
    have hmn : min ys.length xs.length * Enc.sz α ≤ xs.length * Enc.sz α := Nat.mul_le_mul_right _ (Nat.min_le_right _ _)
    refine ⟨_, xs.length, c, b, ys.length, cb, flat (ys.take xs.length), rfl, rfl, hlen, hrow, hone, .inr ⟨g, o, C, T, rfl, h4, by rw [hlen]; omega, ?_⟩⟩
    refine hk _ (by rw [blks_pos h0]; exact hput_mod h _ _ T) (hput_size _ _ _ _) ?_
    have hl2 : (ys.take xs.length ++ xs.drop ys.length).length = xs.length := by simp; omega
    refine ⟨some ⟨g, o, none⟩, c, by rw [hl2], .inr ⟨_, rfl, h0, rfl, by rw [hl2]; exact h2, h3, (spl C.toList o (flat (ys.take xs.length))).toArray, T, (0, 0), hput_get (Array.getElem?_eq_some_iff.1 h4).1 _ T, fun _ => rfl, ?_, ?_⟩⟩
    · simp only [List.size_toArray]; rw [spl_length _ _ _ (by rw [hlen]; simp; omega)]; simpa using h6
    · rw [hl2]
      have hw := spl_window C.toList o (xs.length * Enc.sz α) 0 (flat (ys.take xs.length)) (by rw [hlen]; omega) (by simp; omega)
      simp only [Nat.add_zero] at hw
      rw [hw, h7, flat_append]
      simp only [spl, List.take_zero, List.nil_append, Nat.zero_add]
      congr 1
      rw [flat_drop, hlen]
      by_cases hle : ys.length ≤ xs.length
      · rw [Nat.min_eq_left hle]
      · rw [Nat.min_eq_right (by omega), List.drop_of_length_le (by rw [flat_length]; exact Nat.le_refl _), List.drop_of_length_le (by rw [flat_length]; exact Nat.mul_le_mul_right _ (by omega))]
end
end Go.Vc
