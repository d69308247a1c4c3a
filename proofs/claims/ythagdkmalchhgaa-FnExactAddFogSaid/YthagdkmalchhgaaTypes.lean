/- The structs of the arguments as data, and how they are read. Condition: none. Printed by a program. -/
import Derived.Test.YthagdkmalchhgaaRows
import Derived.Test.YthagdkmalchhgaaBase12
namespace Go.Proofs.Ythagdkmalchhgaa
open Go.Vc Go.RowKit
set_option linter.all false
structure TowerD where
  x : Int
  y : Int
  height : Int
instance : DecidableEq TowerD := fun a b => decidable_of_iff (a.x = b.x ∧ a.y = b.y ∧ a.height = b.height) (by cases a; cases b; simp)
def TowerD.val (a : TowerD) : Value := .agg #[.int .i64 a.x, .int .i64 a.y, .int .i64 a.height]
instance : Enc TowerD := ⟨3, fun a => [.int .i64 a.x, .int .i64 a.y, .int .i64 a.height], fun _ => rfl, by decide, fun a u h => by simp at h; rcases h with rfl | rfl | rfl <;> rfl⟩
def TowerD.good (h : Heap) (a : TowerD) : Prop := I64 a.x ∧ I64 a.y ∧ I64 a.height
set_option maxRecDepth 20000 in
theorem opens_TowerD : Opens Try.prog 149 TowerD (fun h a => TowerD.good h a) := by
  refine ⟨by kernel_rfl, fun hh => ?_⟩
  obtain ⟨hl, n, hf⟩ := trod_fields Try.underlying149 hh
  rename_i cs _
  have hl' : cs.length = 3 := hl.trans (by kernel_rfl)
  obtain ⟨c0, c1, c2, rfl⟩ : ∃ c0 c1 c2, cs = [c0, c1, c2] := by
    match cs, hl' with
    | [c0, c1, c2], _ => exact ⟨c0, c1, c2, rfl⟩
  obtain ⟨_, h0⟩ := hf 0 _ rfl
  obtain ⟨a0, e0, g0⟩ := ((opens_int Try.underlying3 (by kernel_rfl))).op h0
  have e0 : [c0] = Enc.cells a0 := (by have hc : Try.prog.cellsOf 3 = 1 := (by kernel_rfl); simpa [hc] using e0)
  obtain rfl : c0 = .int .i64 a0 := by simpa [Enc.cells] using e0
  obtain ⟨_, h1⟩ := hf 1 _ rfl
  obtain ⟨a1, e1, g1⟩ := ((opens_int Try.underlying3 (by kernel_rfl))).op h1
  have e1 : [c1] = Enc.cells a1 := (by have hc : Try.prog.cellsOf 3 = 1 := (by kernel_rfl); simpa [hc] using e1)
  obtain rfl : c1 = .int .i64 a1 := by simpa [Enc.cells] using e1
  obtain ⟨_, h2⟩ := hf 2 _ rfl
  obtain ⟨a2, e2, g2⟩ := ((opens_int Try.underlying3 (by kernel_rfl))).op h2
  have e2 : [c2] = Enc.cells a2 := (by have hc : Try.prog.cellsOf 3 = 1 := (by kernel_rfl); simpa [hc] using e2)
  obtain rfl : c2 = .int .i64 a2 := by simpa [Enc.cells] using e2
  exact ⟨⟨a0, a1, a2⟩, rfl, g0, g1, g2⟩
structure LinkD where
  a : Int
  b : Int
  delay : Int
instance : DecidableEq LinkD := fun a b => decidable_of_iff (a.a = b.a ∧ a.b = b.b ∧ a.delay = b.delay) (by cases a; cases b; simp)
def LinkD.val (a : LinkD) : Value := .agg #[.int .i64 a.a, .int .i64 a.b, .int .i64 a.delay]
instance : Enc LinkD := ⟨3, fun a => [.int .i64 a.a, .int .i64 a.b, .int .i64 a.delay], fun _ => rfl, by decide, fun a u h => by simp at h; rcases h with rfl | rfl | rfl <;> rfl⟩
def LinkD.good (h : Heap) (a : LinkD) : Prop := I64 a.a ∧ I64 a.b ∧ I64 a.delay
set_option maxRecDepth 20000 in
theorem opens_LinkD : Opens Try.prog 151 LinkD (fun h a => LinkD.good h a) := by
  refine ⟨by kernel_rfl, fun hh => ?_⟩
  obtain ⟨hl, n, hf⟩ := trod_fields Try.underlying151 hh
  rename_i cs _
  have hl' : cs.length = 3 := hl.trans (by kernel_rfl)
  obtain ⟨c0, c1, c2, rfl⟩ : ∃ c0 c1 c2, cs = [c0, c1, c2] := by
    match cs, hl' with
    | [c0, c1, c2], _ => exact ⟨c0, c1, c2, rfl⟩
  obtain ⟨_, h0⟩ := hf 0 _ rfl
  obtain ⟨a0, e0, g0⟩ := ((opens_int Try.underlying3 (by kernel_rfl))).op h0
  have e0 : [c0] = Enc.cells a0 := (by have hc : Try.prog.cellsOf 3 = 1 := (by kernel_rfl); simpa [hc] using e0)
  obtain rfl : c0 = .int .i64 a0 := by simpa [Enc.cells] using e0
  obtain ⟨_, h1⟩ := hf 1 _ rfl
  obtain ⟨a1, e1, g1⟩ := ((opens_int Try.underlying3 (by kernel_rfl))).op h1
  have e1 : [c1] = Enc.cells a1 := (by have hc : Try.prog.cellsOf 3 = 1 := (by kernel_rfl); simpa [hc] using e1)
  obtain rfl : c1 = .int .i64 a1 := by simpa [Enc.cells] using e1
  obtain ⟨_, h2⟩ := hf 2 _ rfl
  obtain ⟨a2, e2, g2⟩ := ((opens_int Try.underlying3 (by kernel_rfl))).op h2
  have e2 : [c2] = Enc.cells a2 := (by have hc : Try.prog.cellsOf 3 = 1 := (by kernel_rfl); simpa [hc] using e2)
  obtain rfl : c2 = .int .i64 a2 := by simpa [Enc.cells] using e2
  exact ⟨⟨a0, a1, a2⟩, rfl, g0, g1, g2⟩
structure NetD where
  towers : SV
  links : SV
def NetD.val (a : NetD) : Value := .agg #[.slice a.towers.a a.towers.n a.towers.c, .slice a.links.a a.links.n a.links.c]
instance : Enc NetD := ⟨2, fun a => [.slice a.towers.a a.towers.n a.towers.c, .slice a.links.a a.links.n a.links.c], fun _ => rfl, by decide, fun a u h => by simp at h; rcases h with rfl | rfl <;> rfl⟩
def NetD.good (h : Heap) (a : NetD) : Prop := (∃ xs : List TowerD, Sl h a.towers.v xs ∧ ∀ y ∈ xs, TowerD.good h y) ∧ (∃ xs : List LinkD, Sl h a.links.v xs ∧ ∀ y ∈ xs, LinkD.good h y)
set_option maxRecDepth 20000 in
theorem opens_NetD : Opens Try.prog 25 NetD (fun h a => NetD.good h a) := by
  refine ⟨by kernel_rfl, fun hh => ?_⟩
  obtain ⟨hl, n, hf⟩ := trod_fields Try.underlying25 hh
  rename_i cs _
  have hl' : cs.length = 2 := hl.trans (by kernel_rfl)
  obtain ⟨c0, c1, rfl⟩ : ∃ c0 c1, cs = [c0, c1] := by
    match cs, hl' with
    | [c0, c1], _ => exact ⟨c0, c1, rfl⟩
  obtain ⟨_, h0⟩ := hf 0 _ rfl
  obtain ⟨a0, e0, g0⟩ := ((opens_sl Try.underlying22 opens_TowerD (by kernel_rfl))).op h0
  have e0 : [c0] = Enc.cells a0 := (by have hc : Try.prog.cellsOf 22 = 1 := (by kernel_rfl); simpa [hc] using e0)
  obtain rfl : c0 = .slice a0.a a0.n a0.c := by simpa [Enc.cells] using e0
  obtain ⟨_, h1⟩ := hf 1 _ rfl
  obtain ⟨a1, e1, g1⟩ := ((opens_sl Try.underlying23 opens_LinkD (by kernel_rfl))).op h1
  have e1 : [c1] = Enc.cells a1 := (by have hc : Try.prog.cellsOf 23 = 1 := (by kernel_rfl); simpa [hc] using e1)
  obtain rfl : c1 = .slice a1.a a1.n a1.c := by simpa [Enc.cells] using e1
  exact ⟨⟨a0, a1⟩, rfl, g0, g1⟩
structure FogD where
  link : Int
  fr : Int
  til : Int
instance : DecidableEq FogD := fun a b => decidable_of_iff (a.link = b.link ∧ a.fr = b.fr ∧ a.til = b.til) (by cases a; cases b; simp)
def FogD.val (a : FogD) : Value := .agg #[.int .i64 a.link, .int .i64 a.fr, .int .i64 a.til]
instance : Enc FogD := ⟨3, fun a => [.int .i64 a.link, .int .i64 a.fr, .int .i64 a.til], fun _ => rfl, by decide, fun a u h => by simp at h; rcases h with rfl | rfl | rfl <;> rfl⟩
def FogD.good (h : Heap) (a : FogD) : Prop := I64 a.link ∧ I64 a.fr ∧ I64 a.til
set_option maxRecDepth 20000 in
theorem opens_FogD : Opens Try.prog 93 FogD (fun h a => FogD.good h a) := by
  refine ⟨by kernel_rfl, fun hh => ?_⟩
  obtain ⟨hl, n, hf⟩ := trod_fields Try.underlying93 hh
  rename_i cs _
  have hl' : cs.length = 3 := hl.trans (by kernel_rfl)
  obtain ⟨c0, c1, c2, rfl⟩ : ∃ c0 c1 c2, cs = [c0, c1, c2] := by
    match cs, hl' with
    | [c0, c1, c2], _ => exact ⟨c0, c1, c2, rfl⟩
  obtain ⟨_, h0⟩ := hf 0 _ rfl
  obtain ⟨a0, e0, g0⟩ := ((opens_int Try.underlying3 (by kernel_rfl))).op h0
  have e0 : [c0] = Enc.cells a0 := (by have hc : Try.prog.cellsOf 3 = 1 := (by kernel_rfl); simpa [hc] using e0)
  obtain rfl : c0 = .int .i64 a0 := by simpa [Enc.cells] using e0
  obtain ⟨_, h1⟩ := hf 1 _ rfl
  obtain ⟨a1, e1, g1⟩ := ((opens_int Try.underlying3 (by kernel_rfl))).op h1
  have e1 : [c1] = Enc.cells a1 := (by have hc : Try.prog.cellsOf 3 = 1 := (by kernel_rfl); simpa [hc] using e1)
  obtain rfl : c1 = .int .i64 a1 := by simpa [Enc.cells] using e1
  obtain ⟨_, h2⟩ := hf 2 _ rfl
  obtain ⟨a2, e2, g2⟩ := ((opens_int Try.underlying3 (by kernel_rfl))).op h2
  have e2 : [c2] = Enc.cells a2 := (by have hc : Try.prog.cellsOf 3 = 1 := (by kernel_rfl); simpa [hc] using e2)
  obtain rfl : c2 = .int .i64 a2 := by simpa [Enc.cells] using e2
  exact ⟨⟨a0, a1, a2⟩, rfl, g0, g1, g2⟩
end Go.Proofs.Ythagdkmalchhgaa
