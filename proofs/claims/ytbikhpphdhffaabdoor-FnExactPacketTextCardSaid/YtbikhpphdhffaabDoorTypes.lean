/- The structs of the arguments as data, and how they are read. Condition: none. Printed by a program. -/
import Derived.Test.YtbikhpphdhffaabDoorRows
import Derived.Test.YtbikhpphdhffaabDoorBase12
namespace Go.Proofs.YtbikhpphdhffaabDoor
open Go.Vc Go.RowKit
set_option linter.all false
structure PacketD where
  message : Int
  part : Int
  parts : Int
  signals : SV
def PacketD.val (a : PacketD) : Value := .agg #[.int .i64 a.message, .int .i64 a.part, .int .i64 a.parts, .slice a.signals.a a.signals.n a.signals.c]
instance : Enc PacketD := ⟨4, fun a => [.int .i64 a.message, .int .i64 a.part, .int .i64 a.parts, .slice a.signals.a a.signals.n a.signals.c], fun _ => rfl, by decide, fun a u h => by simp at h; rcases h with rfl | rfl | rfl | rfl <;> rfl⟩
def PacketD.good (h : Heap) (a : PacketD) : Prop := I64 a.message ∧ I64 a.part ∧ I64 a.parts ∧ (∃ xs : List Int, Sl h a.signals.v xs ∧ ∀ y ∈ xs, I64 y)
set_option maxRecDepth 20000 in
theorem opens_PacketD : Opens Tryd.prog 24 PacketD (fun h a => PacketD.good h a) := by
  refine ⟨by kernel_rfl, fun hh => ?_⟩
  obtain ⟨hl, n, hf⟩ := trod_fields Tryd.underlying24 hh
  rename_i cs _
  have hl' : cs.length = 4 := hl.trans (by kernel_rfl)
  obtain ⟨c0, c1, c2, c3, rfl⟩ : ∃ c0 c1 c2 c3, cs = [c0, c1, c2, c3] := by
    match cs, hl' with
    | [c0, c1, c2, c3], _ => exact ⟨c0, c1, c2, c3, rfl⟩
  obtain ⟨_, h0⟩ := hf 0 _ rfl
  obtain ⟨a0, e0, g0⟩ := ((opens_int Tryd.underlying3 (by kernel_rfl))).op h0
  have e0 : [c0] = Enc.cells a0 := (by have hc : Tryd.prog.cellsOf 3 = 1 := (by kernel_rfl); simpa [hc] using e0)
  obtain rfl : c0 = .int .i64 a0 := by simpa [Enc.cells] using e0
  obtain ⟨_, h1⟩ := hf 1 _ rfl
  obtain ⟨a1, e1, g1⟩ := ((opens_int Tryd.underlying3 (by kernel_rfl))).op h1
  have e1 : [c1] = Enc.cells a1 := (by have hc : Tryd.prog.cellsOf 3 = 1 := (by kernel_rfl); simpa [hc] using e1)
  obtain rfl : c1 = .int .i64 a1 := by simpa [Enc.cells] using e1
  obtain ⟨_, h2⟩ := hf 2 _ rfl
  obtain ⟨a2, e2, g2⟩ := ((opens_int Tryd.underlying3 (by kernel_rfl))).op h2
  have e2 : [c2] = Enc.cells a2 := (by have hc : Tryd.prog.cellsOf 3 = 1 := (by kernel_rfl); simpa [hc] using e2)
  obtain rfl : c2 = .int .i64 a2 := by simpa [Enc.cells] using e2
  obtain ⟨_, h3⟩ := hf 3 _ rfl
  obtain ⟨a3, e3, g3⟩ := ((opens_sl Tryd.underlying22 (opens_int Tryd.underlying3 (by kernel_rfl)) (by kernel_rfl))).op h3
  have e3 : [c3] = Enc.cells a3 := (by have hc : Tryd.prog.cellsOf 22 = 1 := (by kernel_rfl); simpa [hc] using e3)
  obtain rfl : c3 = .slice a3.a a3.n a3.c := by simpa [Enc.cells] using e3
  exact ⟨⟨a0, a1, a2, a3⟩, rfl, g0, g1, g2, g3⟩
end Go.Proofs.YtbikhpphdhffaabDoor
