/- How the arguments of a law are read: what a reading says of a value. Condition: none. -/
import Derived.Test.YtbikhpphdhffaaaGreatDoorBase11
import Derived.ProofKit
import Derived.OpenShut
import Derived.ShutString
import Derived.ChangeOld
import Derived.Below
namespace Go.Vc
open Go.RowKit

/-- What a reading at type t says: the cells are those of a datum of α of which G holds. -/
structure Opens (P : Program) (t : TypeId) (α : Type) [Enc α] (G : Heap → α → Prop) : Prop where
  sz : P.cellsOf t = Enc.sz α
  op : ∀ {H : Type} {enc : TypeId × Value → H} {w : World} {base : Nat} {held : Bool} {fuel : Nat} {cs : List Value} {x : DataW H × List MemPlace},
    DataW.trod enc P w base (fun _ => true) held fuel t cs = some x → ∃ a : α, cs = Enc.cells a ∧ G w.heap a

def I64 (n : Int) : Prop := -9223372036854775808 ≤ n ∧ n ≤ 9223372036854775807

theorem opens_int {P : Program} {t : TypeId} (ht : P.underlying t = some (.int .i64)) (hc : P.cellsOf t = 1) : Opens P t Int (fun _ n => I64 n) := by
  refine ⟨hc, fun h => ?_⟩
  obtain ⟨n, rfl, _, hw⟩ := DataW.trod_int ht h
  have := bounds_i64 hw
  exact ⟨n, rfl, by unfold I64; omega⟩
theorem opens_u8 {P : Program} {t : TypeId} (ht : P.underlying t = some (.int .u8)) (hc : P.cellsOf t = 1) : Opens P t By (fun _ b => 0 ≤ b.n ∧ b.n ≤ 255) := by
  refine ⟨hc, fun h => ?_⟩
  obtain ⟨n, rfl, _, hw⟩ := DataW.trod_int ht h
  have := bounds_u8 hw
  exact ⟨⟨n⟩, rfl, by show 0 ≤ n ∧ n ≤ 255; omega⟩
theorem opens_bool {P : Program} {t : TypeId} (ht : P.underlying t = some .bool) (hc : P.cellsOf t = 1) : Opens P t Bool (fun _ _ => True) := by
  refine ⟨hc, fun h => ?_⟩
  obtain ⟨n, rfl, _⟩ := DataW.trod_bool ht h
  exact ⟨n, rfl, trivial⟩
theorem opens_str {P : Program} {t : TypeId} (ht : P.underlying t = some .string) (hc : P.cellsOf t = 1) : Opens P t ByteArray (fun _ s => s.size ≤ maxLen) := by
  refine ⟨hc, fun h => ?_⟩
  obtain ⟨s, rfl, _, hs⟩ := DataW.trod_string ht h
  exact ⟨s, rfl, hs⟩

theorem cells?_spec {w : World} {base : Nat} {a : Addr} {n : Nat} {cs : List Value} (h : w.cells? base a n = some cs) : cs.length = n ∧ ∀ j, j < n → w.cell? (a.add j) = cs[j]? := by
  unfold World.cells? at h
  split at h
  · obtain ⟨hl, hm⟩ := mapM_some _ _ _ h
    refine ⟨by simpa using hl, fun j hj => ?_⟩
    have hj' : j < cs.length := by rw [hl]; simpa using hj
    have := hm j j cs[j] (by simp [hj]) (by simp [hj'])
    rw [this]; simp [hj']
  · cases h

/-- A slice whose elements read. -/
theorem open_sl {P : Program} {t e : TypeId} {α : Type} [Enc α] {G : Heap → α → Prop} (ht : P.underlying t = some (.slice e)) (ho : Opens P e α G)
    {H : Type} {enc : TypeId × Value → H} {w : World} {base : Nat} {held : Bool} {fuel : Nat} {cs : List Value} {x : DataW H × List MemPlace} (h : DataW.trod enc P w base (fun _ => true) held fuel t cs = some x) :
    ∃ (s : SV) (xs : List α), cs = [s.v] ∧ Sl w.heap s.v xs ∧ ∀ y ∈ xs, G w.heap y := by
  rcases DataW.trod_slice ht h with ⟨rfl, _⟩ | ⟨a, len, cap, elems, rest, n, _, rfl, _, hb, hl, hm, hlen, hel, hsp, _⟩
  · exact ⟨⟨none, 0, 0⟩, [], rfl, SlX.nil false _, by simp⟩
  obtain ⟨hrl, hrest⟩ := hsp rfl
  have each : ∀ i, i < cap → ∃ y : α, w.cells? base (a.add (i * Enc.sz α)) (Enc.sz α) = some (Enc.cells y) ∧ G w.heap y := by
    intro i hi
    have hb' : ∃ y, (w.cells? base (a.add (i * P.cellsOf e)) (P.cellsOf e)).bind (DataW.trod enc P w base (fun _ => true) held n e) = some y := by
      by_cases hi' : i < len
      · have h1 := hel i hi'
        rw [List.getElem?_eq_getElem (by omega)] at h1
        exact ⟨_, h1⟩
      · have h1 := hrest (i - len) (by omega)
        rw [show len + (i - len) = i by omega, List.getElem?_eq_getElem (by omega)] at h1
        exact ⟨_, h1⟩
    obtain ⟨y, hy⟩ := hb'
    simp only [Option.bind_eq_some_iff] at hy
    obtain ⟨c, hc, hy⟩ := hy
    rw [ho.sz] at hc
    obtain ⟨y', rfl, hg⟩ := ho.op hy
    exact ⟨y', hc, hg⟩
  by_cases hcap : cap = 0
  · subst hcap
    have : len = 0 := by omega
    subst this
    exact ⟨⟨some a, 0, 0⟩, [], rfl, SlX.empty false _ _, by simp⟩
  have hex : ∀ k, k ≤ cap → ∃ ys : List α, ys.length = k ∧ ∀ i y, ys[i]? = some y → w.cells? base (a.add (i * Enc.sz α)) (Enc.sz α) = some (Enc.cells y) ∧ G w.heap y := by
    intro k
    induction k with
    | zero => exact fun _ => ⟨[], rfl, fun i y h => by simp at h⟩
    | succ k ih =>
      intro hk
      obtain ⟨ys, hy, hall⟩ := ih (by omega)
      obtain ⟨y, hy1, hy2⟩ := each k (by omega)
      refine ⟨ys ++ [y], by simp [hy], fun i z hz => ?_⟩
      by_cases hi : i < ys.length
      · rw [List.getElem?_append_left hi] at hz; exact hall i z hz
      · rw [List.getElem?_append_right (by omega)] at hz
        have hi0 : i = k := by
          have := (List.getElem?_eq_some_iff.1 hz).1
          simp at this; omega
        subst hi0
        simp [hy] at hz; subst hz
        exact ⟨hy1, hy2⟩
  obtain ⟨ys, hyl, hall⟩ := hex cap (Nat.le_refl _)
  have hpos : 0 < Enc.sz α := Enc.pos
  have hcell : ∀ i y, ys[i]? = some y → ∀ j, j < Enc.sz α → w.cell? ((a.add (i * Enc.sz α)).add j) = (Enc.cells y)[j]? := fun i y hy j hj => (cells?_spec (hall i y hy).1).2 j hj
  -- the address has no spot, and its block is a row
  have h0 := hcell 0 ys[0] (by simp [show 0 < ys.length by omega]) 0 hpos
  rw [Nat.zero_mul, Addr.add_zero', Addr.add_zero', List.getElem?_eq_getElem (by rw [Enc.len]; exact hpos)] at h0
  obtain ⟨b, off, sp⟩ := a
  have hsp : sp = none ∧ ∃ C T fz, w.heap[b]? = some (.cells C T fz) := by
    simp only [World.cell?] at h0
    split at h0
    · rename_i C T fz hC
      refine ⟨?_, C, T, fz, hC⟩
      cases sp with
      | none => rfl
      | some _ => simp at h0
    · cases h0
  obtain ⟨rfl, C, T, fz, hC⟩ := hsp
  have hget : ∀ i, i < cap → ∀ j, j < Enc.sz α → C[off + (i * Enc.sz α + j)]? = (flat ys)[i * Enc.sz α + j]? := by
    intro i hi j hj
    have hy : ys[i]? = some ys[i] := by simp [show i < ys.length by omega]
    have := hcell i ys[i] hy j hj
    rw [addr_add, addr_add] at this
    simp only [World.cell?, hC] at this
    simp only [Option.isSome_none, Bool.false_eq_true, if_false] at this
    rw [flat_get hy j hj, ← this, Nat.add_assoc]
  have hall' : ∀ m, m < cap * Enc.sz α → C[off + m]? = (flat ys)[m]? := by
    intro m hmm
    have e1 : m / Enc.sz α < cap := Nat.div_lt_of_lt_mul (by rw [Nat.mul_comm]; exact hmm)
    have e2 : m % Enc.sz α < Enc.sz α := Nat.mod_lt _ hpos
    have e3 : m / Enc.sz α * Enc.sz α + m % Enc.sz α = m := by rw [Nat.mul_comm]; exact Nat.div_add_mod _ _
    have := hget _ e1 _ e2
    rw [e3] at this
    exact this
  have hfl : (flat ys).length = cap * Enc.sz α := by rw [flat_length, hyl]
  have hsize : off + cap * Enc.sz α ≤ C.size := by
    have hlast := hall' (cap * Enc.sz α - 1) (by have := Nat.mul_pos (Nat.pos_of_ne_zero hcap) hpos; omega)
    have hpp := Nat.mul_pos (Nat.pos_of_ne_zero hcap) hpos
    rw [List.getElem?_eq_getElem (l := flat ys) (by omega)] at hlast
    have := (Array.getElem?_eq_some_iff.1 hlast).1
    omega
  refine ⟨⟨some ⟨b, off, none⟩, len, cap⟩, ys.take len, rfl, ?_, fun y hy => ?_⟩
  · have hlen' : (ys.take len).length = len := by simp; omega
    refine ⟨some ⟨b, off, none⟩, cap, by simp [SV.v, hlen'], .inr ⟨_, rfl, by omega, rfl, by omega, hm, C, T, fz, hC, (by simp), hsize, ?_⟩⟩
    rw [flat_take, hlen']
    have hle : len * Enc.sz α ≤ cap * Enc.sz α := Nat.mul_le_mul_right _ hl
    apply List.ext_getElem?
    intro m
    by_cases hmm : m < len * Enc.sz α
    · rw [List.getElem?_take, if_pos hmm, List.getElem?_drop, List.getElem?_take, if_pos hmm, Array.getElem?_toList]
      exact hall' m (by omega)
    · rw [List.getElem?_take, if_neg hmm, List.getElem?_take, if_neg hmm]
  · obtain ⟨i, hi, rfl⟩ := List.getElem_of_mem hy
    have hi' : i < len := by simp at hi; omega
    have := hall i ys[i] (by simp [show i < ys.length by omega])
    simpa using this.2

theorem opens_sl {P : Program} {t e : TypeId} {α : Type} [Enc α] {G : Heap → α → Prop} (ht : P.underlying t = some (.slice e)) (ho : Opens P e α G) (hc : P.cellsOf t = 1) :
    Opens P t SV (fun h s => ∃ xs : List α, Sl h s.v xs ∧ ∀ y ∈ xs, G h y) := by
  refine ⟨hc, fun h => ?_⟩
  obtain ⟨s, xs, rfl, h1, h2⟩ := open_sl ht ho h
  exact ⟨s, rfl, xs, h1, h2⟩

/-- A parameter that is a struct by value. -/
theorem open_agg {P : Program} {t : TypeId} {fs : Array Field} {α : Type} [Enc α] {G : Heap → α → Prop} (ht : P.underlying t = some (.struct fs)) (ho : Opens P t α G) {w : World} {r : Reach} {b0 : Nat} {v : Value}
    (hv : Value.okWide P w r b0 t v) {H : Type} {enc : TypeId × Value → H} {base : Nat} {held : Bool} {d : DataW H} {ps : List MemPlace} (h : DataW.Trod enc P w base (fun _ => true) held t v d ps) :
    ∃ a : α, v = .agg (Enc.cells a).toArray ∧ G w.heap a := by
  obtain ⟨cs, rfl, _⟩ := WideShapes.okWide_struct ht hv
  obtain ⟨fuel, hf⟩ := h
  obtain ⟨a, ha, hg⟩ := ho.op hf
  refine ⟨a, ?_, hg⟩
  congr 1
  apply Array.toList_inj.1
  simpa [Value.cells] using ha
theorem open_slice {P : Program} {t e : TypeId} {α : Type} [Enc α] {G : Heap → α → Prop} (ht : P.underlying t = some (.slice e)) (ho : Opens P e α G) {w : World} {r : Reach} {b0 : Nat} {v : Value}
    (hv : Value.okWide P w r b0 t v) {H : Type} {enc : TypeId × Value → H} {base : Nat} {held : Bool} {d : DataW H} {ps : List MemPlace} (h : DataW.Trod enc P w base (fun _ => true) held t v d ps) :
    ∃ xs : List α, Sl w.heap v xs ∧ ∀ y ∈ xs, G w.heap y := by
  obtain ⟨a, n, c, rfl⟩ := WideShapes.okWide_slice ht hv
  obtain ⟨fuel, hf⟩ := h
  obtain ⟨s, xs, hs, h1, h2⟩ := open_sl ht ho hf
  refine ⟨xs, ?_, h2⟩
  have e : Value.slice a n c = s.v := by simpa [Value.cells] using hs
  rw [e]; exact h1
theorem open_i64 {P : Program} {t : TypeId} (ht : P.underlying t = some (.int .i64)) {w : World} {r : Reach} {b0 : Nat} {v : Value}
    (hv : Value.okWide P w r b0 t v) {H : Type} {enc : TypeId × Value → H} {base : Nat} {held : Bool} {d : DataW H} {ps : List MemPlace} (h : DataW.Trod enc P w base (fun _ => true) held t v d ps) :
    ∃ n : Int, v = .int .i64 n ∧ I64 n := by
  obtain ⟨n, rfl⟩ := WideShapes.okWide_int ht hv
  obtain ⟨fuel, hf⟩ := h
  obtain ⟨n', hn, _, hw⟩ := DataW.trod_int ht hf
  simp [Value.cells] at hn
  subst hn
  have := bounds_i64 hw
  exact ⟨_, rfl, by unfold I64; omega⟩

/-- A struct of fields of one cell each: the reading of each. -/
theorem trod_fields {P : Program} {t : TypeId} {fs : Array Field} (ht : P.underlying t = some (.struct fs)) {H : Type} {enc : TypeId × Value → H} {w : World} {base : Nat} {held : Bool} {fuel : Nat} {cs : List Value} {x : DataW H × List MemPlace}
    (h : DataW.trod enc P w base (fun _ => true) held fuel t cs = some x) : cs.length = P.cellsOf t ∧ ∃ n, ∀ (i : Nat) (f : Field), fs[i]? = some f → ∃ y, DataW.trod enc P w base (fun _ => true) held n f.type ((cs.drop f.offset).take (P.cellsOf f.type)) = some y := by
  obtain ⟨xs, n, _, _, hl, hlen, hf⟩ := DataW.trod_struct ht h
  refine ⟨hl, n, fun i f hi => ?_⟩
  have := hf i f hi
  have hi' : i < xs.length := by rw [hlen]; exact (Array.getElem?_eq_some_iff.1 hi).1
  exact ⟨xs[i], by rw [this]; simp [hi']⟩

/-- The end of a law: it returned true and changed nothing that was there. -/
theorem below_of {w w' : World} (hs : Sim w w') (he : Ext w.heap w'.heap) : Below w.heap.size w w' := ⟨hs.os, hs.tape, hs.output, he.size, he.blk⟩
theorem law_calls {P : Program} {f : FuncId} {args : List Value} {w : World} (h : CallsH P f args w.heap fun v h' => v = .bool true ∧ Ext w.heap h') :
    Calls P f args.toArray w fun e w' => e = .returned (.bool true) ∧ Below w.heap.size w w' :=
  (h.out.2 w rfl).mono fun _ _ ⟨_, he, hs, hv, hx⟩ => ⟨by rw [he, hv], below_of hs hx⟩
end Go.Vc
