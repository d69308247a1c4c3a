/- Small rules used by the printed walks. Condition: none. -/
import Derived.Test.YtbikhpphdhffaaaGreatDoorStep
namespace Go.Vc

section
variable {ρ : Operand → Value} {off : Nat} {x : Operand} {r : List (Nat × Nat × Operand)} {acc : List Value} {K : List Value → Prop}
theorem seg_nil (q : K acc) : segVC ρ [] acc K := q
theorem seg_i {k : IntKind} {a : Int} (hx : ρ x = .int k a) (hk : segVC ρ r (acc.set off (.int k a)) K) : segVC ρ ((off, 1, x) :: r) acc K := by
  simp only [segVC, hx]; exact ⟨trivial, hk⟩
theorem seg_b {b : Bool} (hx : ρ x = .bool b) (hk : segVC ρ r (acc.set off (.bool b)) K) : segVC ρ ((off, 1, x) :: r) acc K := by
  simp only [segVC, hx]; exact ⟨trivial, hk⟩
theorem seg_s {b : ByteArray} (hx : ρ x = .string b) (hk : segVC ρ r (acc.set off (.string b)) K) : segVC ρ ((off, 1, x) :: r) acc K := by
  simp only [segVC, hx]; exact ⟨trivial, hk⟩
theorem seg_p {a : Option Addr} (hx : ρ x = .pointer a) (hk : segVC ρ r (acc.set off (.pointer a)) K) : segVC ρ ((off, 1, x) :: r) acc K := by
  simp only [segVC, hx]; exact ⟨trivial, hk⟩
theorem seg_sn {a : Option Addr} {n c : Nat} (hx : ρ x = .slice a n c) (hk : segVC ρ r (acc.set off (.slice a n c)) K) : segVC ρ ((off, 1, x) :: r) acc K := by
  simp only [segVC, hx]; exact ⟨trivial, hk⟩
theorem seg_sl {α : Type} [Enc α] {own : Bool} {h : Heap} {v : Value} {xs : List α} (hs : SlX own h v xs) (hx : ρ x = v) (hk : segVC ρ r (acc.set off v) K) : segVC ρ ((off, 1, x) :: r) acc K := by
  obtain ⟨a, c, rfl⟩ := hs.shape
  exact seg_sn hx hk
theorem seg_agg {cs : Array Value} {n : Nat} (hx : ρ x = .agg cs) (hn : cs.size = n) (hk : segVC ρ r (spl acc off cs.toList) K) : segVC ρ ((off, n, x) :: r) acc K := by
  simp only [segVC, hx]; exact ⟨hn, hk⟩
end
theorem w_build {ρ : Operand → Value} {zero : List Value} {parts : List (Nat × Nat × Operand)} {K : Value → Prop} (h : segVC ρ parts zero (fun cs => K (.agg cs.toArray))) : (POp.build zero parts).wp ρ K := h

/-- a call whose code is walked here -/
theorem s_inl {P : Program} {l : List MStep} {E : Env} {h : Heap} {K : Env → Heap → Prop} {d : Nat} {f : FuncId} {args : List Operand} {m : MFun} (hf : resFun P f = some m) (vs : List Value) (ha : args.map (ev E) = vs) (hk : vc P m.code (m.post (fun v h' => vcOps P l (E.put d v) h' K)) (Env.of vs) h) (hn : vs.length.ble m.n = true) :
    vcOps P (.op ⟨some d, .eff (.call f args), none⟩ :: l) E h K := by
  show CallsH P f (args.map (ev E)) h _
  rw [ha]; exact calls_of hf hk hn
theorem sl_eq {α : Type} [Enc α] {own : Bool} {h : Heap} {v : Value} {xs ys : List α} (hs : SlX own h v xs) (e : xs = ys) : SlX own h v ys := e ▸ hs
theorem Ext.ofEq {h h' : Heap} (e : h' = h) : Ext h h' := e ▸ Ext.refl h'
theorem Ext.ofNil {h h' : Heap} (m : Mod (blks (.slice none 0 0)) h h') : Ext h h' := ⟨m.size, fun b hb => m.blk b hb (by simp [blks])⟩
theorem Fr.ofNil {n : Nat} {v : Value} (h : ∀ b ∈ blks v, b ∈ blks (.slice none 0 0) ∨ n ≤ b) : Fr n v := fun b hb => (h b hb).elim (fun hc => by simp [blks] at hc) id
theorem Mod.new {bs cs : List Nat} {h a b : Heap} (m : Mod bs h a) (k : Mod cs a b) (hc : ∀ x ∈ cs, x ∈ bs ∨ h.size ≤ x) : Mod bs h b :=
  ⟨Nat.le_trans m.size k.size, fun x hx hn => (k.blk x (Nat.lt_of_lt_of_le hx m.size) (fun hm => (hc x hm).elim hn (fun hl => by omega))).trans (m.blk x hx hn)⟩
theorem conv_i64 {a : Int} {K : Value → Prop} (hb : -9223372036854775808 ≤ a ∧ a ≤ 9223372036854775807) (q : K (.int .i64 a)) : K (.int .i64 (IntKind.i64.wrap a)) := by
  rw [wrap_id a hb.1 hb.2]; exact q
theorem snoc_get {α : Type} {xs : List α} {k : Nat} {x : α} (h : xs[k]? = some x) : xs.take (k + 1) = xs.take k ++ [x] := by
  rw [List.take_add_one, h]; rfl
theorem take_all {α : Type} {xs : List α} {k : Nat} (h : ¬ (k : Int) < (xs.length : Int)) : xs.take k = xs := List.take_of_length_le (by omega)

theorem all_app {A B : List Nat} {P : Nat → Prop} (ha : ∀ b ∈ A, P b) (hb : ∀ b ∈ B, P b) : ∀ b ∈ A ++ B, P b := fun b h => (List.mem_append.1 h).elim (ha b) (hb b)
theorem not_app {A B : List Nat} {x : Nat} (ha : x ∉ A) (hb : x ∉ B) : x ∉ A ++ B := fun h => (List.mem_append.1 h).elim ha hb
theorem all_nil : ∀ u ∈ ([] : List Value), u.oneCell' = true := fun u h => by simp at h
theorem all_cons {v : Value} {l : List Value} (h : v.oneCell' = true) (hl : ∀ u ∈ l, u.oneCell' = true) : ∀ u ∈ v :: l, u.oneCell' = true := by
  intro u hu
  rcases List.mem_cons.1 hu with rfl | hu
  · exact h
  · exact hl u hu
theorem SlX.one1 {α : Type} [Enc α] {own : Bool} {h : Heap} {v : Value} {xs : List α} (hs : SlX own h v xs) : v.oneCell' = true := hs.onev _ (List.mem_singleton.2 rfl)

/-- a test for nil: a nil slice has no elements -/
theorem SlX.isNil {α : Type} [Enc α] {own : Bool} {h : Heap} {v : Value} {xs : List α} (hs : SlX own h v xs) : ∃ b : Bool, (∀ (ng : Bool) (K : Value → Prop), K (.bool (bif ng then !b else b)) → NilVC v ng K) ∧ (b = true → xs = []) := by
  obtain ⟨a, c, rfl, hs⟩ := hs
  refine ⟨a.isNone, fun ng K hk => ⟨a, _, c, rfl, hk⟩, fun hb => ?_⟩
  rcases hs with ⟨rfl, _⟩ | ⟨ad, rfl, _⟩
  · rfl
  · cases hb

/-- a part of a slice -/
theorem SlX.slc {α : Type} [Enc α] {h : Heap} {v : Value} {xs : List α} (hs : Sl h v xs) {l m : Nat} (h1 : l ≤ m) (h2 : m ≤ xs.length) :
    ∃ v', (∀ sz, sz = Enc.sz α → ∀ lo hi : Option Value, (match lo with | none => l = 0 | some x => ∃ k i, x = .int k i ∧ i = (l : Int)) → (match hi with | none => m = xs.length | some x => ∃ k i, x = .int k i ∧ i = (m : Int)) →
      ∀ K : Value → Prop, K v' → SlcVC sz v lo hi none K) ∧ Sl h v' ((xs.take m).drop l) ∧ ∀ b ∈ blks v', b ∈ blks v := by
  obtain ⟨a, c, rfl, hs⟩ := hs
  have hlen : ((xs.take m).drop l).length = m - l := by simp; omega
  have hmc : m ≤ c := by
    rcases hs with ⟨rfl, rfl⟩ | ⟨_, _, _, _, h3, _⟩
    · simpa using h2
    · omega
  refine ⟨.slice (if c = l then a else a.map (·.add (l * Enc.sz α))) (m - l) (c - l), ?_, ?_, ?_⟩
  · rintro _ rfl lo hi hlo hhi K hk
    refine ⟨a, xs.length, c, l, m, c, rfl, h1, hmc, Nat.le_refl _, rfl, ?_, ?_, hk⟩
    · cases hi with
      | none => exact ⟨hhi, rfl⟩
      | some x => obtain ⟨k, i, rfl, rfl⟩ := hhi; exact ⟨k, rfl⟩
    · cases lo with
      | none => exact hlo
      | some x => obtain ⟨k, i, rfl, rfl⟩ := hlo; exact ⟨k, rfl⟩
  · refine ⟨_, c - l, by rw [hlen], ?_⟩
    by_cases hcl : c = l
    · left
      exact ⟨List.eq_nil_of_length_eq_zero (by omega), by omega⟩
    · rw [if_neg hcl]
      rcases hs with ⟨rfl, rfl⟩ | ⟨ad, rfl, h3, h4, h5, h6, C, T, fz, h7, h8, h9, h10⟩
      · simp at h2; omega
      · right
        obtain ⟨b, o, s⟩ := ad
        simp only at h4 h7 h9 h10
        subst h4
        refine ⟨⟨b, o + l * Enc.sz α, none⟩, by simp [addr_add], by omega, rfl, by omega, by omega, C, T, fz, h7, h8, ?_, ?_⟩
        · have e1 : o + l * Enc.sz α + (c - l) * Enc.sz α = o + c * Enc.sz α := by
            rw [Nat.add_assoc, ← Nat.add_mul]; congr 2; omega
          simp only [e1]; exact h9
        · rw [hlen, flat_drop, flat_take, ← h10]
          simp only
          rw [List.take_take, List.drop_take, List.drop_drop]
          congr 1
          rw [Nat.min_eq_left (Nat.mul_le_mul_right _ h2), Nat.sub_mul]
  · intro b hb
    by_cases hcl : c = l
    · rw [if_pos hcl] at hb
      have : c - l = 0 := by omega
      rw [this, blks_zero] at hb; cases hb
    · rw [if_neg hcl] at hb
      rcases hs with ⟨rfl, rfl⟩ | ⟨ad, rfl, h3, h4, _⟩
      · simp at h2; omega
      · obtain ⟨b', o, s⟩ := ad
        simp only at h4
        subst h4
        simp only [Option.map_some, addr_add] at hb
        rw [blks_pos (by omega)] at hb
        rw [blks_pos h3]
        exact hb
end Go.Vc
