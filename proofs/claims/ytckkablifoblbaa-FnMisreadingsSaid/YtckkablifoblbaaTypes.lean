/- The structs of the arguments as data, and how they are read. Condition: none. Printed by a program. -/
import Derived.Test.YtckkablifoblbaaRows
import Derived.Test.YtckkablifoblbaaBase12
namespace Go.Proofs.Ytckkablifoblbaa
open Go.Vc Go.RowKit
set_option linter.all false
structure LineD where
  towers : Int
  tries : Int
instance : DecidableEq LineD := fun a b => decidable_of_iff (a.towers = b.towers ∧ a.tries = b.tries) (by cases a; cases b; simp)
def LineD.val (a : LineD) : Value := .agg #[.int .i64 a.towers, .int .i64 a.tries]
instance : Enc LineD := ⟨2, fun a => [.int .i64 a.towers, .int .i64 a.tries], fun _ => rfl, by decide, fun a u h => by simp at h; rcases h with rfl | rfl <;> rfl⟩
def LineD.good (h : Heap) (a : LineD) : Prop := I64 a.towers ∧ I64 a.tries
set_option maxRecDepth 20000 in
theorem opens_LineD : Opens Try.prog 23 LineD (fun h a => LineD.good h a) := by
  refine ⟨by kernel_rfl, fun hh => ?_⟩
  obtain ⟨hl, n, hf⟩ := trod_fields Try.underlying23 hh
  rename_i cs _
  have hl' : cs.length = 2 := hl.trans (by kernel_rfl)
  obtain ⟨c0, c1, rfl⟩ : ∃ c0 c1, cs = [c0, c1] := by
    match cs, hl' with
    | [c0, c1], _ => exact ⟨c0, c1, rfl⟩
  obtain ⟨_, h0⟩ := hf 0 _ rfl
  obtain ⟨a0, e0, g0⟩ := ((opens_int Try.underlying3 (by kernel_rfl))).op h0
  have e0 : [c0] = Enc.cells a0 := (by have hc : Try.prog.cellsOf 3 = 1 := (by kernel_rfl); simpa [hc] using e0)
  obtain rfl : c0 = .int .i64 a0 := by simpa [Enc.cells] using e0
  obtain ⟨_, h1⟩ := hf 1 _ rfl
  obtain ⟨a1, e1, g1⟩ := ((opens_int Try.underlying3 (by kernel_rfl))).op h1
  have e1 : [c1] = Enc.cells a1 := (by have hc : Try.prog.cellsOf 3 = 1 := (by kernel_rfl); simpa [hc] using e1)
  obtain rfl : c1 = .int .i64 a1 := by simpa [Enc.cells] using e1
  exact ⟨⟨a0, a1⟩, rfl, g0, g1⟩
end Go.Proofs.Ytckkablifoblbaa
