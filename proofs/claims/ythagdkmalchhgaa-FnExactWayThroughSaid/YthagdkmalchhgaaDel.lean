/- Prefixes of own slices, appending within the room, and clearing behind the end: what slices.Delete does. Condition: none. -/
import Derived.Test.YthagdkmalchhgaaStep2
namespace Go.Vc
set_option linter.all false
section
variable {α : Type} [Enc α] {own : Bool} {h : Heap} {v : Value} {xs : List α}
theorem SlX.cap {a : Option Addr} {n c : Nat} (hs : SlX own h (.slice a n c) xs) : n = xs.length ∧ xs.length ≤ c := by
  obtain ⟨a', c', hv, hs⟩ := hs
  simp only [Value.slice.injEq] at hv
  obtain ⟨rfl, rfl, rfl⟩ := hv
  refine ⟨rfl, ?_⟩
  rcases hs with ⟨rfl, rfl⟩ | ⟨ad, _, _, _, h2, _⟩
  · simp
  · exact h2
theorem addr_same {a : Option Addr} {c : Nat} : (if c = 0 then a else a.map (·.add 0)) = a := by
  split
  · rfl
  · cases a with
    | none => rfl
    | some a =>
      obtain ⟨b, o, s⟩ := a
      cases s <;> rfl
/-- a front of an own slice is its own, with the same room -/
theorem SlX.front {a : Option Addr} {n c : Nat} (hs : SlX own h (.slice a n c) xs) {m : Nat} (hm : m ≤ xs.length) {sz : Nat} :
    SlX own h (.slice a m c) (xs.take m) ∧ ∀ {k : IntKind} {K : Value → Prop}, K (.slice a m c) → SlcVC sz (.slice a n c) none (some (.int k (m : Int))) none K := by
  obtain ⟨hn, hc⟩ := hs.cap
  refine ⟨?_, fun {k K} hk => ⟨a, n, c, 0, m, c, rfl, Nat.zero_le _, by omega, Nat.le_refl _, rfl, ⟨_, rfl⟩, rfl, ?_⟩⟩
  · obtain ⟨a', c', hv, hs⟩ := hs
    simp only [Value.slice.injEq] at hv
    obtain ⟨rfl, rfl, rfl⟩ := hv
    have hl : (xs.take m).length = m := by simp; omega
    refine ⟨a, c, by rw [hl], ?_⟩
    rcases hs with ⟨rfl, rfl⟩ | ⟨ad, h0, h1, h2, h3, h4, C, T, fz, h5, h6, h7, h8⟩
    · left; simp
    · right
      refine ⟨ad, h0, h1, h2, by omega, h4, C, T, fz, h5, h6, h7, ?_⟩
      have hle : m * Enc.sz α ≤ xs.length * Enc.sz α := Nat.mul_le_mul_right _ hm
      rw [hl, flat_take, ← h8, List.take_take, Nat.min_eq_left hle]
  · simp only [Nat.zero_mul, Nat.sub_zero]
    rw [addr_same]; exact hk
/-- appending within the room -/
theorem SlX.appendIn {a : Option Addr} {n c : Nat} (hs : SlO h (.slice a n c) xs) {own' : Bool} {x : Value} {ys : List α} (hx : SlX own' h x ys) {e : TypeId} {sz bytes : Nat} (hsz : sz = Enc.sz α) (hroom : xs.length + ys.length ≤ c)
    (hb : (xs.length + ys.length) * bytes ≤ 140737488355328) {K : Value → Heap → Prop}
    (hk : ∀ h', Mod (blks (.slice a n c)) h h' → h'.size = h.size → SlO h' (.slice a (xs.length + ys.length) c) (xs ++ ys) → K (.slice a (xs.length + ys.length) c) h') : AppVC h e sz bytes (.slice a n c) x K := by
  subst hsz
  obtain ⟨rfl, hcap⟩ := hs.cap
  obtain ⟨b, cb, rfl, hyr⟩ := row_of hx
  obtain ⟨a2, c2, hv2, hrow⟩ := row_of hs
  simp only [Value.slice.injEq] at hv2
  obtain ⟨rfl, -, rfl⟩ := hv2
  obtain ⟨a', c', hv, hs'⟩ := hs
  simp only [Value.slice.injEq] at hv
  obtain ⟨rfl, -, rfl⟩ := hv
  have hmax : c ≤ maxLen := by
    rcases hs' with ⟨_, hc0⟩ | ⟨ad, _, _, _, _, h3, _⟩
    · omega
    · exact h3
  refine ⟨a, xs.length, c, b, ys.length, cb, flat xs, flat ys, rfl, rfl, flat_length xs, flat_length ys, hrow, hyr, by omega, hb, flat_one ys, fun _ => ?_, fun hc => absurd hroom (by omega)⟩
  rcases hs' with ⟨hx0, hc0⟩ | ⟨ad, rfl, h0, h1, h2, h3, C, T, fz, h4, h5, h6, h7⟩
  · left
    have hy0 : ys = [] := List.eq_nil_of_length_eq_zero (by omega)
    subst hy0; subst hx0; subst hc0
    exact ⟨rfl, hk _ (Mod.refl _ h) rfl (SlX.empty true h _)⟩
  · right
    obtain ⟨g, o, s⟩ := ad
    simp only at h1 h4 h6 h7
    subst h1
    obtain rfl := h5 rfl
    have hroom' : (xs.length + ys.length) * Enc.sz α ≤ c * Enc.sz α := Nat.mul_le_mul_right _ hroom
    have hfy : (flat ys).length = ys.length * Enc.sz α := flat_length ys
    have hfx : (flat xs).length = xs.length * Enc.sz α := flat_length xs
    have hadd : (xs.length + ys.length) * Enc.sz α = xs.length * Enc.sz α + ys.length * Enc.sz α := Nat.add_mul _ _ _
    refine ⟨g, o, C, T, rfl, h4, by omega, hk _ (by rw [blks_pos h0]; exact hput_mod h _ _ T) (hput_size _ _ _ _) ?_⟩
    refine ⟨some ⟨g, o, none⟩, c, by simp, .inr ⟨_, rfl, h0, rfl, by simpa using hroom, h3, (spl C.toList (o + xs.length * Enc.sz α) (flat ys)).toArray, T, (0, 0), hput_get (Array.getElem?_eq_some_iff.1 h4).1 _ T, fun _ => rfl, ?_, ?_⟩⟩
    · simp only [List.size_toArray]; rw [spl_length _ _ _ (by simp; omega)]; simpa using h6
    · rw [List.length_append, hadd, spl_window _ _ _ _ _ (by omega) (by simp; omega), flat_append]
      have e1 : ((C.toList.drop o).take (xs.length * Enc.sz α + ys.length * Enc.sz α)) = flat xs ++ ((C.toList.drop o).drop (xs.length * Enc.sz α)).take (ys.length * Enc.sz α) := by
        rw [List.take_add, h7]
      rw [e1]
      simp only [spl]
      rw [List.take_append_of_le_length (by omega), List.take_of_length_le (by omega), List.drop_of_length_le (by simp; omega)]
      simp
/-- clearing what lies between the end and an elder end -/
theorem SlX.clearTail {a : Option Addr} {n c q : Nat} (hs : SlO h (.slice a n c) xs) (h1 : n ≤ q) (h2 : q ≤ c) :
    ∃ r, (∀ {k k' : IntKind} {K : Value → Prop}, K r → SlcVC (Enc.sz α) (.slice a n c) (some (.int k (n : Int))) (some (.int k' (q : Int))) none K) ∧
      ∀ (zero : List Value) {K : Heap → Prop}, zero.length = Enc.sz α → (∀ u ∈ zero, u.oneCell' = true) → (∀ h', Mod (blks (.slice a n c)) h h' → h'.size = h.size → SlO h' (.slice a n c) xs → K h') → ClearVC h (Enc.sz α) zero r K := by
  obtain ⟨rfl, hcap⟩ := hs.cap
  refine ⟨.slice (if c = xs.length then a else a.map (·.add (xs.length * Enc.sz α))) (q - xs.length) (c - xs.length), fun {k k' K} hk => ⟨a, xs.length, c, xs.length, q, c, rfl, h1, h2, Nat.le_refl _, rfl, ⟨_, rfl⟩, ⟨_, rfl⟩, hk⟩, fun zero K hz ho hk => ?_⟩
  have hs0 := hs
  obtain ⟨a', c', hv, hs'⟩ := hs
  simp only [Value.slice.injEq] at hv
  obtain ⟨rfl, -, rfl⟩ := hv
  refine ⟨_, _, _, rfl, ?_⟩
  by_cases hq : q = xs.length
  · left; exact ⟨by omega, hk h (Mod.refl _ h) rfl hs0⟩
  · right
    rcases hs' with ⟨hx0, hc0⟩ | ⟨ad, rfl, g0, g1, g2, g3, C, T, fz, g4, g5, g6, g7⟩
    · omega
    · obtain ⟨g, o, s⟩ := ad
      simp only at g1 g4 g6 g7
      subst g1
      obtain rfl := g5 rfl
      have hfl : (List.replicate (q - xs.length) zero).flatten.length = (q - xs.length) * Enc.sz α := by
        rw [List.length_flatten]; simp [hz]
      have e1 : xs.length * Enc.sz α + (q - xs.length) * Enc.sz α = q * Enc.sz α := by rw [← Nat.add_mul]; congr 1; omega
      have e2 : q * Enc.sz α ≤ c * Enc.sz α := Nat.mul_le_mul_right _ h2
      refine ⟨g, o + xs.length * Enc.sz α, C, T, by rw [if_neg (by omega)]; simp [addr_add], g4, by omega, hz, ho, hk _ (by rw [blks_pos g0]; exact hput_mod h _ _ T) (hput_size _ _ _ _) ?_⟩
      refine ⟨some ⟨g, o, none⟩, c, rfl, .inr ⟨_, rfl, g0, rfl, g2, g3, _, T, (0, 0), hput_get (Array.getElem?_eq_some_iff.1 g4).1 _ T, fun _ => rfl, ?_, ?_⟩⟩
      · simp only [List.size_toArray]; rw [spl_length _ _ _ (by rw [hfl]; simp; omega)]; simpa using g6
      · rw [← g7]
        simp only [spl]
        rw [List.append_assoc, List.drop_append_of_le_length (by simp; omega), List.take_append_of_le_length (by simp; omega), List.drop_take, List.take_take]
        congr 1
        omega
theorem blks_same {a : Option Addr} {n m c : Nat} : blks (.slice a n c) = blks (.slice a m c) := by
  cases a with
  | none => rfl
  | some a => cases c <;> rfl
/-- the test of bounds -/
theorem SlX.b3 (hs : SlX own h v xs) {l m sz : Nat} (h1 : l ≤ m) (h2 : m ≤ xs.length) :
    ∃ r, ∀ {k k' k'' : IntKind} {lo mi hi : Int} {K : Value → Prop}, lo = (l : Int) → mi = (m : Int) → hi = (xs.length : Int) → K r → SlcVC sz v (some (.int k lo)) (some (.int k' mi)) (some (.int k'' hi)) K := by
  obtain ⟨a, c, rfl⟩ := hs.shape
  obtain ⟨_, hc⟩ := hs.cap
  refine ⟨.slice (if xs.length = l then a else a.map (·.add (l * sz))) (m - l) (xs.length - l), ?_⟩
  intro k k' k'' lo mi hi K e1 e2 e3 hk
  subst e1; subst e2; subst e3
  exact ⟨a, _, c, l, m, xs.length, rfl, h1, h2, hc, ⟨_, rfl⟩, ⟨_, rfl⟩, ⟨_, rfl⟩, hk⟩
theorem SlX.pre2 {a : Option Addr} {c : Nat} (hs : SlX own h v xs) (hv : v = .slice a xs.length c) {m : Nat} (hm : m ≤ xs.length) {sz : Nat} :
    SlX own h (.slice a m c) (xs.take m) ∧ ∀ {k : IntKind} {mi : Int} {K : Value → Prop}, mi = (m : Int) → K (.slice a m c) → SlcVC sz v none (some (.int k mi)) none K := by
  subst hv
  exact ⟨(hs.front hm (sz := sz)).1, fun {k mi K} e hk => by subst e; exact (hs.front hm (sz := sz)).2 hk⟩
theorem SlX.appIn2 {a : Option Addr} {c : Nat} (hs : SlO h v xs) (hv : v = .slice a xs.length c) {m : Nat} (hm : m ≤ xs.length) {own' : Bool} {x : Value} {ys : List α} (hx : SlX own' h x ys) {e : TypeId} {sz bytes : Nat} (hsz : sz = Enc.sz α) (hroom : m + ys.length ≤ xs.length)
    (hb : xs.length * bytes ≤ 140737488355328) {K : Value → Heap → Prop}
    (hk : ∀ h', Mod (blks v) h h' → h'.size = h.size → SlO h' (.slice a (m + ys.length) c) (xs.take m ++ ys) → K (.slice a (m + ys.length) c) h') : AppVC h e sz bytes (.slice a m c) x K := by
  subst hv
  obtain ⟨_, hc⟩ := hs.cap
  have hl : (xs.take m).length = m := by simp; omega
  have hp := (hs.front hm (sz := sz)).1
  have hle : ((xs.take m).length + ys.length) * bytes ≤ xs.length * bytes := Nat.mul_le_mul_right _ (by omega)
  refine hp.appendIn hx hsz (by omega) (by omega) (fun h' m' z' s' => ?_)
  rw [hl] at s' ⊢
  exact hk h' (by rw [blks_same (m := m)]; exact m') z' s'
theorem SlX.tail2 {a : Option Addr} {n c q : Nat} (hs : SlO h (.slice a n c) xs) (h1 : n ≤ q) (h2 : q ≤ c) :
    ∃ r, (∀ {k k' : IntKind} {lo hi : Int} {K : Value → Prop}, lo = (n : Int) → hi = (q : Int) → K r → SlcVC (Enc.sz α) (.slice a n c) (some (.int k lo)) (some (.int k' hi)) none K) ∧
      ∀ (zero : List Value) {K : Heap → Prop}, zero.length = Enc.sz α → (∀ u ∈ zero, u.oneCell' = true) → (∀ h', Mod (blks (.slice a n c)) h h' → h'.size = h.size → SlO h' (.slice a n c) xs → K h') → ClearVC h (Enc.sz α) zero r K := by
  obtain ⟨r, q1, q2⟩ := hs.clearTail h1 h2
  exact ⟨r, fun {k k' lo hi K} e1 e2 hk => by subst e1; subst e2; exact q1 hk, q2⟩
theorem SlX.shape2 (hs : SlX own h v xs) : ∃ a c, v = .slice a xs.length c ∧ xs.length ≤ c := by
  obtain ⟨a, c, rfl⟩ := hs.shape
  exact ⟨a, c, rfl, hs.cap.2⟩
theorem s_appRaw {P : Program} {l : List MStep} {E : Env} {h : Heap} {K : Env → Heap → Prop} {d : Nat} {e : TypeId} {sz bytes : Nat} {s x : Operand} {v w : Value} (ha : ev E s = v) (hx : ev E x = w) (hk : AppVC h e sz bytes v w fun v' h' => vcOps P l (E.put d v') h' K) : vcOps P (.op ⟨some d, .eff (.app e sz bytes s x), none⟩ :: l) E h K := by
  show AppVC h e sz bytes (ev E s) (ev E x) _
  rw [ha, hx]; exact hk
theorem s_clearN {P : Program} {l : List MStep} {E : Env} {h : Heap} {K : Env → Heap → Prop} {sz : Nat} {zero : List Value} {x : Operand} (hk : ClearVC h sz zero (ev E x) fun h' => vcOps P l E h' K) : vcOps P (.op ⟨none, .eff (.clear sz zero x), none⟩ :: l) E h K := by
  show ClearVC h sz zero (ev E x) _
  exact hk
end
end Go.Vc
