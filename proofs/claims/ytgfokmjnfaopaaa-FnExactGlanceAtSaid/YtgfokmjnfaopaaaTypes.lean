/- The structs of the arguments as data, and how they are read. Condition: none. Printed by a program. -/
import Derived.Test.YtgfokmjnfaopaaaRows
import Derived.Test.YtgfokmjnfaopaaaBase12
namespace Go.Proofs.Ytgfokmjnfaopaaa
open Go.Vc Go.RowKit
structure RepD where
  phase : Int
  holds : Int
  again : Int
  shown : Int
  passed : SV
def RepD.val (a : RepD) : Value := .agg #[.int .i64 a.phase, .int .i64 a.holds, .int .i64 a.again, .int .i64 a.shown, .slice a.passed.a a.passed.n a.passed.c]
instance : Enc RepD := ⟨5, fun a => [.int .i64 a.phase, .int .i64 a.holds, .int .i64 a.again, .int .i64 a.shown, .slice a.passed.a a.passed.n a.passed.c], fun _ => rfl, by decide, fun a u h => by simp at h; rcases h with rfl | rfl | rfl | rfl | rfl <;> rfl⟩
def RepD.good (h : Heap) (a : RepD) : Prop := I64 a.phase ∧ I64 a.holds ∧ I64 a.again ∧ I64 a.shown ∧ (∃ xs : List Int, Sl h a.passed.v xs ∧ ∀ y ∈ xs, I64 y)
theorem opens_RepD : Opens Try.prog 24 RepD (fun h a => RepD.good h a) := by
  refine ⟨by kernel_rfl, fun hh => ?_⟩
  obtain ⟨hl, n, hf⟩ := trod_fields Try.underlying24 hh
  rename_i cs _
  have hl' : cs.length = 5 := hl.trans (by kernel_rfl)
  obtain ⟨c0, c1, c2, c3, c4, rfl⟩ : ∃ c0 c1 c2 c3 c4, cs = [c0, c1, c2, c3, c4] := by
    match cs, hl' with
    | [c0, c1, c2, c3, c4], _ => exact ⟨c0, c1, c2, c3, c4, rfl⟩
  obtain ⟨_, h0⟩ := hf 0 _ rfl
  obtain ⟨a0, e0, g0⟩ := ((opens_int Try.underlying3 (by kernel_rfl))).op h0
  have e0 : [c0] = Enc.cells a0 := (by have hc : Try.prog.cellsOf 3 = 1 := (by kernel_rfl); simpa [hc] using e0)
  obtain rfl : c0 = .int .i64 a0 := by simpa [Enc.cells] using e0
  obtain ⟨_, h1⟩ := hf 1 _ rfl
  obtain ⟨a1, e1, g1⟩ := ((opens_int Try.underlying3 (by kernel_rfl))).op h1
  have e1 : [c1] = Enc.cells a1 := (by have hc : Try.prog.cellsOf 3 = 1 := (by kernel_rfl); simpa [hc] using e1)
  obtain rfl : c1 = .int .i64 a1 := by simpa [Enc.cells] using e1
  obtain ⟨_, h2⟩ := hf 2 _ rfl
  obtain ⟨a2, e2, g2⟩ := ((opens_int Try.underlying3 (by kernel_rfl))).op h2
  have e2 : [c2] = Enc.cells a2 := (by have hc : Try.prog.cellsOf 3 = 1 := (by kernel_rfl); simpa [hc] using e2)
  obtain rfl : c2 = .int .i64 a2 := by simpa [Enc.cells] using e2
  obtain ⟨_, h3⟩ := hf 3 _ rfl
  obtain ⟨a3, e3, g3⟩ := ((opens_int Try.underlying3 (by kernel_rfl))).op h3
  have e3 : [c3] = Enc.cells a3 := (by have hc : Try.prog.cellsOf 3 = 1 := (by kernel_rfl); simpa [hc] using e3)
  obtain rfl : c3 = .int .i64 a3 := by simpa [Enc.cells] using e3
  obtain ⟨_, h4⟩ := hf 4 _ rfl
  obtain ⟨a4, e4, g4⟩ := ((opens_sl Try.underlying22 (opens_int Try.underlying3 (by kernel_rfl)) (by kernel_rfl))).op h4
  have e4 : [c4] = Enc.cells a4 := (by have hc : Try.prog.cellsOf 22 = 1 := (by kernel_rfl); simpa [hc] using e4)
  obtain rfl : c4 = .slice a4.a a4.n a4.c := by simpa [Enc.cells] using e4
  exact ⟨⟨a0, a1, a2, a3, a4⟩, rfl, g0, g1, g2, g3, g4⟩
structure GlanceD where
  next : Bool
  signal : Int
instance : DecidableEq GlanceD := fun a b => decidable_of_iff (a.next = b.next ∧ a.signal = b.signal) (by cases a; cases b; simp)
def GlanceD.val (a : GlanceD) : Value := .agg #[.bool a.next, .int .i64 a.signal]
instance : Enc GlanceD := ⟨2, fun a => [.bool a.next, .int .i64 a.signal], fun _ => rfl, by decide, fun a u h => by simp at h; rcases h with rfl | rfl <;> rfl⟩
def GlanceD.good (h : Heap) (a : GlanceD) : Prop := True ∧ I64 a.signal
theorem opens_GlanceD : Opens Try.prog 51 GlanceD (fun h a => GlanceD.good h a) := by
  refine ⟨by kernel_rfl, fun hh => ?_⟩
  obtain ⟨hl, n, hf⟩ := trod_fields Try.underlying51 hh
  rename_i cs _
  have hl' : cs.length = 2 := hl.trans (by kernel_rfl)
  obtain ⟨c0, c1, rfl⟩ : ∃ c0 c1, cs = [c0, c1] := by
    match cs, hl' with
    | [c0, c1], _ => exact ⟨c0, c1, rfl⟩
  obtain ⟨_, h0⟩ := hf 0 _ rfl
  obtain ⟨a0, e0, g0⟩ := ((opens_bool Try.underlying4 (by kernel_rfl))).op h0
  have e0 : [c0] = Enc.cells a0 := (by have hc : Try.prog.cellsOf 4 = 1 := (by kernel_rfl); simpa [hc] using e0)
  obtain rfl : c0 = .bool a0 := by simpa [Enc.cells] using e0
  obtain ⟨_, h1⟩ := hf 1 _ rfl
  obtain ⟨a1, e1, g1⟩ := ((opens_int Try.underlying3 (by kernel_rfl))).op h1
  have e1 : [c1] = Enc.cells a1 := (by have hc : Try.prog.cellsOf 3 = 1 := (by kernel_rfl); simpa [hc] using e1)
  obtain rfl : c1 = .int .i64 a1 := by simpa [Enc.cells] using e1
  exact ⟨⟨a0, a1⟩, rfl, g0, g1⟩
end Go.Proofs.Ytgfokmjnfaopaaa
