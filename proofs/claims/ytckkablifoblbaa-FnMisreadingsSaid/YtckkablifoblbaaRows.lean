/-
  No cell of these rows narrows 'for every input' (looked for: loops, veiled, ifaces, maps, wideKeys, modest, calm, conditions, laid).
  DERIVED. THE GIVEN ROWS OF THIS SEAT. 12 by the template 'for every input the law returns true; each argument reads behind the call as it read before'; 0 by the template 'total and deterministic' (their statements: YtckkablifoblbaaTotals.lean).
  GIVEN WITH THE SEED: the statements are not yours to turn. If you find one false, say at which input.
  Laid BY PROGRAM, IN A SANDBOX (cutbox-rows.mjs): the forced cells as the released guide's own fill.sh prints them over the translation d6c18a14066ac449… (all of the seat's roots in one cut). By AI agents, Wed Nov 11 2026. No macro, syntax, notation, axiom, sorry.
-/
import Derived.Test.YtckkablifoblbaaChecked
import GoSem.Claim
import GoSem.ClaimJoined
import GoSem.ClaimMapViews
import Derived.JoinedTies
import Derived.KernelRfl
namespace Go.Proofs.Ytckkablifoblbaa
/- THE CELL 'sum', in the pinned program and in every row, IS THE sha256 OF THE DUMP (.gsa) THAT YtckkablifoblbaaProg.lean LOADS. Nothing in Lean hashes anything: it is a label: what it is worth is what the hold of that sum in a sandbox is worth. -/
noncomputable def Try.pinned : Pinned := { name := "ytckkablifoblbaa", sum := "d6c18a14066ac449741c0098b964229b3bac0f781be18f524931c9a0620aba15", checked := Try.checked }
namespace Rows
def none {H : Type} : Left H := { results := [], args := [] }

/-- 'laws.FnExactIsLine': WHATEVER THE INPUT: true; the input reads as it did. -/
def fnExactIsLineSpec : ChangeSpec := { name := "fnExactIsLine", fn := fun _ => fun
  | [d] => { results := [.lit (.bool true)], args := [d] }
  | _ => none }
def fnExactIsLineRow : OpenClaim := { program := "ytckkablifoblbaa", sum := "d6c18a14066ac449741c0098b964229b3bac0f781be18f524931c9a0620aba15", func := "loop.example/g00940/laws.FnExactIsLine", spec := "fnExactIsLine", apart := false }
def FnExactIsLineSaid : Prop := fnExactIsLineRow.holds Try.pinned (OpenSpec.ofChange fnExactIsLineSpec)

/-- ITS FALSE NEIGHBOUR: 'it returns false'. Refute it at one input. -/
def fnExactIsLineWrong : ChangeSpec := { name := "fnExactIsLine", fn := fun _ => fun
  | [d] => { results := [.lit (.bool false)], args := [d] }
  | _ => none }
def FnExactIsLineWrongFalsely : Prop := fnExactIsLineRow.holds Try.pinned (OpenSpec.ofChange fnExactIsLineWrong)

/-- 'laws.FnExactPlainCount': WHATEVER THE INPUT: true; the input reads as it did. -/
def fnExactPlainCountSpec : ChangeSpec := { name := "fnExactPlainCount", fn := fun _ => fun
  | [d1, d2] => { results := [.lit (.bool true)], args := [d1, d2] }
  | _ => none }
def fnExactPlainCountRow : OpenClaim := { program := "ytckkablifoblbaa", sum := "d6c18a14066ac449741c0098b964229b3bac0f781be18f524931c9a0620aba15", func := "loop.example/g00940/laws.FnExactPlainCount", spec := "fnExactPlainCount", apart := false }
def FnExactPlainCountSaid : Prop := fnExactPlainCountRow.holds Try.pinned (OpenSpec.ofChange fnExactPlainCountSpec)

/-- ITS FALSE NEIGHBOUR: 'it returns false'. Refute it at one input. -/
def fnExactPlainCountWrong : ChangeSpec := { name := "fnExactPlainCount", fn := fun _ => fun
  | [d1, d2] => { results := [.lit (.bool false)], args := [d1, d2] }
  | _ => none }
def FnExactPlainCountWrongFalsely : Prop := fnExactPlainCountRow.holds Try.pinned (OpenSpec.ofChange fnExactPlainCountWrong)

/-- 'laws.FnExactWithPattern': WHATEVER THE INPUT: true; the input reads as it did. -/
def fnExactWithPatternSpec : ChangeSpec := { name := "fnExactWithPattern", fn := fun _ => fun
  | [d1, d2, d3] => { results := [.lit (.bool true)], args := [d1, d2, d3] }
  | _ => none }
def fnExactWithPatternRow : OpenClaim := { program := "ytckkablifoblbaa", sum := "d6c18a14066ac449741c0098b964229b3bac0f781be18f524931c9a0620aba15", func := "loop.example/g00940/laws.FnExactWithPattern", spec := "fnExactWithPattern", apart := false }
def FnExactWithPatternSaid : Prop := fnExactWithPatternRow.holds Try.pinned (OpenSpec.ofChange fnExactWithPatternSpec)

/-- ITS FALSE NEIGHBOUR: 'it returns false'. Refute it at one input. -/
def fnExactWithPatternWrong : ChangeSpec := { name := "fnExactWithPattern", fn := fun _ => fun
  | [d1, d2, d3] => { results := [.lit (.bool false)], args := [d1, d2, d3] }
  | _ => none }
def FnExactWithPatternWrongFalsely : Prop := fnExactWithPatternRow.holds Try.pinned (OpenSpec.ofChange fnExactWithPatternWrong)

/-- 'laws.FnExactLineGlances': WHATEVER THE INPUT: true; the input reads as it did. -/
def fnExactLineGlancesSpec : ChangeSpec := { name := "fnExactLineGlances", fn := fun _ => fun
  | [d1, d2, d3] => { results := [.lit (.bool true)], args := [d1, d2, d3] }
  | _ => none }
def fnExactLineGlancesRow : OpenClaim := { program := "ytckkablifoblbaa", sum := "d6c18a14066ac449741c0098b964229b3bac0f781be18f524931c9a0620aba15", func := "loop.example/g00940/laws.FnExactLineGlances", spec := "fnExactLineGlances", unfollowed := true, recurses := true, apart := false }
def FnExactLineGlancesSaid : Prop := fnExactLineGlancesRow.holds Try.pinned (OpenSpec.ofChange fnExactLineGlancesSpec)

/-- ITS FALSE NEIGHBOUR: 'it returns false'. Refute it at one input. -/
def fnExactLineGlancesWrong : ChangeSpec := { name := "fnExactLineGlances", fn := fun _ => fun
  | [d1, d2, d3] => { results := [.lit (.bool false)], args := [d1, d2, d3] }
  | _ => none }
def FnExactLineGlancesWrongFalsely : Prop := fnExactLineGlancesRow.holds Try.pinned (OpenSpec.ofChange fnExactLineGlancesWrong)

/-- 'laws.FnExactStuckAt': WHATEVER THE INPUT: true; the input reads as it did. -/
def fnExactStuckAtSpec : ChangeSpec := { name := "fnExactStuckAt", fn := fun _ => fun
  | [d1, d2, d3] => { results := [.lit (.bool true)], args := [d1, d2, d3] }
  | _ => none }
def fnExactStuckAtRow : OpenClaim := { program := "ytckkablifoblbaa", sum := "d6c18a14066ac449741c0098b964229b3bac0f781be18f524931c9a0620aba15", func := "loop.example/g00940/laws.FnExactStuckAt", spec := "fnExactStuckAt", unfollowed := true, recurses := true, apart := false }
def FnExactStuckAtSaid : Prop := fnExactStuckAtRow.holds Try.pinned (OpenSpec.ofChange fnExactStuckAtSpec)

/-- ITS FALSE NEIGHBOUR: 'it returns false'. Refute it at one input. -/
def fnExactStuckAtWrong : ChangeSpec := { name := "fnExactStuckAt", fn := fun _ => fun
  | [d1, d2, d3] => { results := [.lit (.bool false)], args := [d1, d2, d3] }
  | _ => none }
def FnExactStuckAtWrongFalsely : Prop := fnExactStuckAtRow.holds Try.pinned (OpenSpec.ofChange fnExactStuckAtWrong)

/-- 'laws.FnExactLeastLineTries': WHATEVER THE INPUT: true; the input reads as it did. -/
def fnExactLeastLineTriesSpec : ChangeSpec := { name := "fnExactLeastLineTries", fn := fun _ => fun
  | [d1, d2, d3] => { results := [.lit (.bool true)], args := [d1, d2, d3] }
  | _ => none }
def fnExactLeastLineTriesRow : OpenClaim := { program := "ytckkablifoblbaa", sum := "d6c18a14066ac449741c0098b964229b3bac0f781be18f524931c9a0620aba15", func := "loop.example/g00940/laws.FnExactLeastLineTries", spec := "fnExactLeastLineTries", unfollowed := true, recurses := true, apart := false }
def FnExactLeastLineTriesSaid : Prop := fnExactLeastLineTriesRow.holds Try.pinned (OpenSpec.ofChange fnExactLeastLineTriesSpec)

/-- ITS FALSE NEIGHBOUR: 'it returns false'. Refute it at one input. -/
def fnExactLeastLineTriesWrong : ChangeSpec := { name := "fnExactLeastLineTries", fn := fun _ => fun
  | [d1, d2, d3] => { results := [.lit (.bool false)], args := [d1, d2, d3] }
  | _ => none }
def FnExactLeastLineTriesWrongFalsely : Prop := fnExactLeastLineTriesRow.holds Try.pinned (OpenSpec.ofChange fnExactLeastLineTriesWrong)

/-- 'laws.FnExactHeldAtTower': WHATEVER THE INPUT: true; the input reads as it did. -/
def fnExactHeldAtTowerSpec : ChangeSpec := { name := "fnExactHeldAtTower", fn := fun _ => fun
  | [d1, d2, d3, d4] => { results := [.lit (.bool true)], args := [d1, d2, d3, d4] }
  | _ => none }
def fnExactHeldAtTowerRow : OpenClaim := { program := "ytckkablifoblbaa", sum := "d6c18a14066ac449741c0098b964229b3bac0f781be18f524931c9a0620aba15", func := "loop.example/g00940/laws.FnExactHeldAtTower", spec := "fnExactHeldAtTower", unfollowed := true, recurses := true, apart := false }
def FnExactHeldAtTowerSaid : Prop := fnExactHeldAtTowerRow.holds Try.pinned (OpenSpec.ofChange fnExactHeldAtTowerSpec)

/-- ITS FALSE NEIGHBOUR: 'it returns false'. Refute it at one input. -/
def fnExactHeldAtTowerWrong : ChangeSpec := { name := "fnExactHeldAtTower", fn := fun _ => fun
  | [d1, d2, d3, d4] => { results := [.lit (.bool false)], args := [d1, d2, d3, d4] }
  | _ => none }
def FnExactHeldAtTowerWrongFalsely : Prop := fnExactHeldAtTowerRow.holds Try.pinned (OpenSpec.ofChange fnExactHeldAtTowerWrong)

/-- 'laws.FnExactPassLine': WHATEVER THE INPUT: true; the input reads as it did. -/
def fnExactPassLineSpec : ChangeSpec := { name := "fnExactPassLine", fn := fun _ => fun
  | [d1, d2, d3] => { results := [.lit (.bool true)], args := [d1, d2, d3] }
  | _ => none }
def fnExactPassLineRow : OpenClaim := { program := "ytckkablifoblbaa", sum := "d6c18a14066ac449741c0098b964229b3bac0f781be18f524931c9a0620aba15", func := "loop.example/g00940/laws.FnExactPassLine", spec := "fnExactPassLine", unfollowed := true, recurses := true, apart := false }
def FnExactPassLineSaid : Prop := fnExactPassLineRow.holds Try.pinned (OpenSpec.ofChange fnExactPassLineSpec)

/-- ITS FALSE NEIGHBOUR: 'it returns false'. Refute it at one input. -/
def fnExactPassLineWrong : ChangeSpec := { name := "fnExactPassLine", fn := fun _ => fun
  | [d1, d2, d3] => { results := [.lit (.bool false)], args := [d1, d2, d3] }
  | _ => none }
def FnExactPassLineWrongFalsely : Prop := fnExactPassLineRow.holds Try.pinned (OpenSpec.ofChange fnExactPassLineWrong)

/-- 'laws.FnExactWrongSignals': WHATEVER THE INPUT: true; the input reads as it did. -/
def fnExactWrongSignalsSpec : ChangeSpec := { name := "fnExactWrongSignals", fn := fun _ => fun
  | [d1, d2, d3] => { results := [.lit (.bool true)], args := [d1, d2, d3] }
  | _ => none }
def fnExactWrongSignalsRow : OpenClaim := { program := "ytckkablifoblbaa", sum := "d6c18a14066ac449741c0098b964229b3bac0f781be18f524931c9a0620aba15", func := "loop.example/g00940/laws.FnExactWrongSignals", spec := "fnExactWrongSignals", unfollowed := true, recurses := true, apart := false }
def FnExactWrongSignalsSaid : Prop := fnExactWrongSignalsRow.holds Try.pinned (OpenSpec.ofChange fnExactWrongSignalsSpec)

/-- ITS FALSE NEIGHBOUR: 'it returns false'. Refute it at one input. -/
def fnExactWrongSignalsWrong : ChangeSpec := { name := "fnExactWrongSignals", fn := fun _ => fun
  | [d1, d2, d3] => { results := [.lit (.bool false)], args := [d1, d2, d3] }
  | _ => none }
def FnExactWrongSignalsWrongFalsely : Prop := fnExactWrongSignalsRow.holds Try.pinned (OpenSpec.ofChange fnExactWrongSignalsWrong)

/-- 'laws.FnExactLineTable': WHATEVER THE INPUT: true; the input reads as it did. -/
def fnExactLineTableSpec : ChangeSpec := { name := "fnExactLineTable", fn := fun _ => fun
  | [d1, d2, d3] => { results := [.lit (.bool true)], args := [d1, d2, d3] }
  | _ => none }
def fnExactLineTableRow : OpenClaim := { program := "ytckkablifoblbaa", sum := "d6c18a14066ac449741c0098b964229b3bac0f781be18f524931c9a0620aba15", func := "loop.example/g00940/laws.FnExactLineTable", spec := "fnExactLineTable", unfollowed := true, recurses := true, apart := false }
def FnExactLineTableSaid : Prop := fnExactLineTableRow.holds Try.pinned (OpenSpec.ofChange fnExactLineTableSpec)

/-- ITS FALSE NEIGHBOUR: 'it returns false'. Refute it at one input. -/
def fnExactLineTableWrong : ChangeSpec := { name := "fnExactLineTable", fn := fun _ => fun
  | [d1, d2, d3] => { results := [.lit (.bool false)], args := [d1, d2, d3] }
  | _ => none }
def FnExactLineTableWrongFalsely : Prop := fnExactLineTableRow.holds Try.pinned (OpenSpec.ofChange fnExactLineTableWrong)

/-- 'laws.FnLines': WHATEVER THE INPUT: true; the input reads as it did. -/
def fnLinesSpec : ChangeSpec := { name := "fnLines", fn := fun _ => fun
  | [d1, d2] => { results := [.lit (.bool true)], args := [d1, d2] }
  | _ => none }
def fnLinesRow : OpenClaim := { program := "ytckkablifoblbaa", sum := "d6c18a14066ac449741c0098b964229b3bac0f781be18f524931c9a0620aba15", func := "loop.example/g00940/laws.FnLines", spec := "fnLines", unfollowed := true, recurses := true, apart := false }
def FnLinesSaid : Prop := fnLinesRow.holds Try.pinned (OpenSpec.ofChange fnLinesSpec)

/-- ITS FALSE NEIGHBOUR: 'it returns false'. Refute it at one input. -/
def fnLinesWrong : ChangeSpec := { name := "fnLines", fn := fun _ => fun
  | [d1, d2] => { results := [.lit (.bool false)], args := [d1, d2] }
  | _ => none }
def FnLinesWrongFalsely : Prop := fnLinesRow.holds Try.pinned (OpenSpec.ofChange fnLinesWrong)

/-- 'laws.FnMisreadings': WHATEVER THE INPUT: true; the input reads as it did. -/
def fnMisreadingsSpec : ChangeSpec := { name := "fnMisreadings", fn := fun _ => fun
  | [d1, d2] => { results := [.lit (.bool true)], args := [d1, d2] }
  | _ => none }
def fnMisreadingsRow : OpenClaim := { program := "ytckkablifoblbaa", sum := "d6c18a14066ac449741c0098b964229b3bac0f781be18f524931c9a0620aba15", func := "loop.example/g00940/laws.FnMisreadings", spec := "fnMisreadings", unfollowed := true, recurses := true, apart := false }
def FnMisreadingsSaid : Prop := fnMisreadingsRow.holds Try.pinned (OpenSpec.ofChange fnMisreadingsSpec)

/-- ITS FALSE NEIGHBOUR: 'it returns false'. Refute it at one input. -/
def fnMisreadingsWrong : ChangeSpec := { name := "fnMisreadings", fn := fun _ => fun
  | [d1, d2] => { results := [.lit (.bool false)], args := [d1, d2] }
  | _ => none }
def FnMisreadingsWrongFalsely : Prop := fnMisreadingsRow.holds Try.pinned (OpenSpec.ofChange fnMisreadingsWrong)

/- THE SECOND FORM. 'bulk': how many values and letters a reading holds, each counted each time it is reached (what is shared counts as often as it is met; a slice's spare places count too). A statement '..UptoSaid' is the law's where the arguments, and the package variables that the reading takes, are together of bulk at most 1048576: NARROWER than '..Said'. Prove '..Said' where nothing that the law and all that it calls make is longer than what came in: it says more and counts as full. Else prove '..UptoSaid'. A law counts once. -/
mutual
def uptoBulk {H : Type} : DataW H → Nat
  | .lit (.string bytes) => bytes.length + 1
  | .lit _ => 1
  | .nil => 1
  | .ptr d => uptoBulk d + 1
  | .slice elems spare => uptoBulkAll elems + uptoBulkAll spare + 1
  | .agg parts => uptoBulkAll parts + 1
  | .iface _ d => uptoBulk d + 1
  | .map entries => uptoBulkEntries entries + 1
  | .held _ => 1
def uptoBulkAll {H : Type} : List (DataW H) → Nat
  | [] => 0
  | d :: r => uptoBulk d + uptoBulkAll r
def uptoBulkEntries {H : Type} : List (Lit × DataW H) → Nat
  | [] => 0
  | x :: r => uptoBulkEntry x + uptoBulkEntries r
def uptoBulkEntry {H : Type} : Lit × DataW H → Nat
  | (.string bytes, d) => bytes.length + uptoBulk d + 1
  | (_, d) => uptoBulk d + 1
 end
def uptoSmall : (H : Type) → List (DataW H) → Bool := fun _ ds => decide (uptoBulkAll ds ≤ 1048576)
def OpenSpec.upto (s : _root_.Go.ChangeSpec) : _root_.Go.OpenSpec := { _root_.Go.OpenSpec.ofChange s with cond := some uptoSmall }

/-- 'laws.FnExactIsLine', WHERE WHAT IT READS IS OF BULK AT MOST 1048576: true; the input reads as it did. -/
def fnExactIsLineUptoRow : OpenClaim := { program := "ytckkablifoblbaa", sum := "d6c18a14066ac449741c0098b964229b3bac0f781be18f524931c9a0620aba15", func := "loop.example/g00940/laws.FnExactIsLine", spec := "fnExactIsLine", apart := false, narrowed := true }
def FnExactIsLineUptoSaid : Prop := fnExactIsLineUptoRow.holds Try.pinned (OpenSpec.upto fnExactIsLineSpec)

/-- 'laws.FnExactPlainCount', WHERE WHAT IT READS IS OF BULK AT MOST 1048576: true; the input reads as it did. -/
def fnExactPlainCountUptoRow : OpenClaim := { program := "ytckkablifoblbaa", sum := "d6c18a14066ac449741c0098b964229b3bac0f781be18f524931c9a0620aba15", func := "loop.example/g00940/laws.FnExactPlainCount", spec := "fnExactPlainCount", apart := false, narrowed := true }
def FnExactPlainCountUptoSaid : Prop := fnExactPlainCountUptoRow.holds Try.pinned (OpenSpec.upto fnExactPlainCountSpec)

/-- 'laws.FnExactWithPattern', WHERE WHAT IT READS IS OF BULK AT MOST 1048576: true; the input reads as it did. -/
def fnExactWithPatternUptoRow : OpenClaim := { program := "ytckkablifoblbaa", sum := "d6c18a14066ac449741c0098b964229b3bac0f781be18f524931c9a0620aba15", func := "loop.example/g00940/laws.FnExactWithPattern", spec := "fnExactWithPattern", apart := false, narrowed := true }
def FnExactWithPatternUptoSaid : Prop := fnExactWithPatternUptoRow.holds Try.pinned (OpenSpec.upto fnExactWithPatternSpec)

/-- 'laws.FnExactLineGlances', WHERE WHAT IT READS IS OF BULK AT MOST 1048576: true; the input reads as it did. -/
def fnExactLineGlancesUptoRow : OpenClaim := { program := "ytckkablifoblbaa", sum := "d6c18a14066ac449741c0098b964229b3bac0f781be18f524931c9a0620aba15", func := "loop.example/g00940/laws.FnExactLineGlances", spec := "fnExactLineGlances", unfollowed := true, recurses := true, apart := false, narrowed := true }
def FnExactLineGlancesUptoSaid : Prop := fnExactLineGlancesUptoRow.holds Try.pinned (OpenSpec.upto fnExactLineGlancesSpec)

/-- 'laws.FnExactStuckAt', WHERE WHAT IT READS IS OF BULK AT MOST 1048576: true; the input reads as it did. -/
def fnExactStuckAtUptoRow : OpenClaim := { program := "ytckkablifoblbaa", sum := "d6c18a14066ac449741c0098b964229b3bac0f781be18f524931c9a0620aba15", func := "loop.example/g00940/laws.FnExactStuckAt", spec := "fnExactStuckAt", unfollowed := true, recurses := true, apart := false, narrowed := true }
def FnExactStuckAtUptoSaid : Prop := fnExactStuckAtUptoRow.holds Try.pinned (OpenSpec.upto fnExactStuckAtSpec)

/-- 'laws.FnExactLeastLineTries', WHERE WHAT IT READS IS OF BULK AT MOST 1048576: true; the input reads as it did. -/
def fnExactLeastLineTriesUptoRow : OpenClaim := { program := "ytckkablifoblbaa", sum := "d6c18a14066ac449741c0098b964229b3bac0f781be18f524931c9a0620aba15", func := "loop.example/g00940/laws.FnExactLeastLineTries", spec := "fnExactLeastLineTries", unfollowed := true, recurses := true, apart := false, narrowed := true }
def FnExactLeastLineTriesUptoSaid : Prop := fnExactLeastLineTriesUptoRow.holds Try.pinned (OpenSpec.upto fnExactLeastLineTriesSpec)

/-- 'laws.FnExactHeldAtTower', WHERE WHAT IT READS IS OF BULK AT MOST 1048576: true; the input reads as it did. -/
def fnExactHeldAtTowerUptoRow : OpenClaim := { program := "ytckkablifoblbaa", sum := "d6c18a14066ac449741c0098b964229b3bac0f781be18f524931c9a0620aba15", func := "loop.example/g00940/laws.FnExactHeldAtTower", spec := "fnExactHeldAtTower", unfollowed := true, recurses := true, apart := false, narrowed := true }
def FnExactHeldAtTowerUptoSaid : Prop := fnExactHeldAtTowerUptoRow.holds Try.pinned (OpenSpec.upto fnExactHeldAtTowerSpec)

/-- 'laws.FnExactPassLine', WHERE WHAT IT READS IS OF BULK AT MOST 1048576: true; the input reads as it did. -/
def fnExactPassLineUptoRow : OpenClaim := { program := "ytckkablifoblbaa", sum := "d6c18a14066ac449741c0098b964229b3bac0f781be18f524931c9a0620aba15", func := "loop.example/g00940/laws.FnExactPassLine", spec := "fnExactPassLine", unfollowed := true, recurses := true, apart := false, narrowed := true }
def FnExactPassLineUptoSaid : Prop := fnExactPassLineUptoRow.holds Try.pinned (OpenSpec.upto fnExactPassLineSpec)

/-- 'laws.FnExactWrongSignals', WHERE WHAT IT READS IS OF BULK AT MOST 1048576: true; the input reads as it did. -/
def fnExactWrongSignalsUptoRow : OpenClaim := { program := "ytckkablifoblbaa", sum := "d6c18a14066ac449741c0098b964229b3bac0f781be18f524931c9a0620aba15", func := "loop.example/g00940/laws.FnExactWrongSignals", spec := "fnExactWrongSignals", unfollowed := true, recurses := true, apart := false, narrowed := true }
def FnExactWrongSignalsUptoSaid : Prop := fnExactWrongSignalsUptoRow.holds Try.pinned (OpenSpec.upto fnExactWrongSignalsSpec)

/-- 'laws.FnExactLineTable', WHERE WHAT IT READS IS OF BULK AT MOST 1048576: true; the input reads as it did. -/
def fnExactLineTableUptoRow : OpenClaim := { program := "ytckkablifoblbaa", sum := "d6c18a14066ac449741c0098b964229b3bac0f781be18f524931c9a0620aba15", func := "loop.example/g00940/laws.FnExactLineTable", spec := "fnExactLineTable", unfollowed := true, recurses := true, apart := false, narrowed := true }
def FnExactLineTableUptoSaid : Prop := fnExactLineTableUptoRow.holds Try.pinned (OpenSpec.upto fnExactLineTableSpec)

/-- 'laws.FnLines', WHERE WHAT IT READS IS OF BULK AT MOST 1048576: true; the input reads as it did. -/
def fnLinesUptoRow : OpenClaim := { program := "ytckkablifoblbaa", sum := "d6c18a14066ac449741c0098b964229b3bac0f781be18f524931c9a0620aba15", func := "loop.example/g00940/laws.FnLines", spec := "fnLines", unfollowed := true, recurses := true, apart := false, narrowed := true }
def FnLinesUptoSaid : Prop := fnLinesUptoRow.holds Try.pinned (OpenSpec.upto fnLinesSpec)

/-- 'laws.FnMisreadings', WHERE WHAT IT READS IS OF BULK AT MOST 1048576: true; the input reads as it did. -/
def fnMisreadingsUptoRow : OpenClaim := { program := "ytckkablifoblbaa", sum := "d6c18a14066ac449741c0098b964229b3bac0f781be18f524931c9a0620aba15", func := "loop.example/g00940/laws.FnMisreadings", spec := "fnMisreadings", unfollowed := true, recurses := true, apart := false, narrowed := true }
def FnMisreadingsUptoSaid : Prop := fnMisreadingsUptoRow.holds Try.pinned (OpenSpec.upto fnMisreadingsSpec)

end Rows
end Go.Proofs.Ytckkablifoblbaa
