/-
  No cell of these rows narrows 'for every input' (looked for: loops, veiled, ifaces, maps, wideKeys, modest, calm, conditions, laid).
  DERIVED. THE GIVEN ROWS OF THIS SEAT. 16 by the template 'for every input the law returns true; each argument reads behind the call as it read before'; 0 by the template 'total and deterministic' (their statements: YthagdkmalchhgaaTotals.lean).
  GIVEN WITH THE SEED: the statements are not yours to turn. If you find one false, say at which input.
  Laid BY PROGRAM, IN A SANDBOX (cutbox-rows.mjs): the forced cells as the released guide's own fill.sh prints them over the translation 0cf016e8c3858b01… (all of the seat's roots in one cut). By AI agents, Wed Nov 11 2026. No macro, syntax, notation, axiom, sorry.
-/
import Derived.Test.YthagdkmalchhgaaChecked
import GoSem.Claim
import GoSem.ClaimJoined
import GoSem.ClaimMapViews
import Derived.JoinedTies
import Derived.KernelRfl
namespace Go.Proofs.Ythagdkmalchhgaa
/- THE CELL 'sum', in the pinned program and in every row, IS THE sha256 OF THE DUMP (.gsa) THAT YthagdkmalchhgaaProg.lean LOADS. Nothing in Lean hashes anything: it is a label: what it is worth is what the hold of that sum in a sandbox is worth. -/
noncomputable def Try.pinned : Pinned := { name := "ythagdkmalchhgaa", sum := "0cf016e8c3858b018be984344f0d666d93225b727dacb8fe26ca8b805f119994", checked := Try.checked }
namespace Rows
def none {H : Type} : Left H := { results := [], args := [] }

/-- 'laws.FnExactPlainDelay': WHATEVER THE INPUT: true; the input reads as it did. -/
def fnExactPlainDelaySpec : ChangeSpec := { name := "fnExactPlainDelay", fn := fun _ => fun
  | [d1, d2, d3] => { results := [.lit (.bool true)], args := [d1, d2, d3] }
  | _ => none }
def fnExactPlainDelayRow : OpenClaim := { program := "ythagdkmalchhgaa", sum := "0cf016e8c3858b018be984344f0d666d93225b727dacb8fe26ca8b805f119994", func := "loop.example/g00940/laws.FnExactPlainDelay", spec := "fnExactPlainDelay", apart := false }
def FnExactPlainDelaySaid : Prop := fnExactPlainDelayRow.holds Try.pinned (OpenSpec.ofChange fnExactPlainDelaySpec)

/-- ITS FALSE NEIGHBOUR: 'it returns false'. Refute it at one input. -/
def fnExactPlainDelayWrong : ChangeSpec := { name := "fnExactPlainDelay", fn := fun _ => fun
  | [d1, d2, d3] => { results := [.lit (.bool false)], args := [d1, d2, d3] }
  | _ => none }
def FnExactPlainDelayWrongFalsely : Prop := fnExactPlainDelayRow.holds Try.pinned (OpenSpec.ofChange fnExactPlainDelayWrong)

/-- 'laws.FnExactDelayWithout': WHATEVER THE INPUT: true; the input reads as it did. -/
def fnExactDelayWithoutSpec : ChangeSpec := { name := "fnExactDelayWithout", fn := fun _ => fun
  | [d1, d2, d3, d4] => { results := [.lit (.bool true)], args := [d1, d2, d3, d4] }
  | _ => none }
def fnExactDelayWithoutRow : OpenClaim := { program := "ythagdkmalchhgaa", sum := "0cf016e8c3858b018be984344f0d666d93225b727dacb8fe26ca8b805f119994", func := "loop.example/g00940/laws.FnExactDelayWithout", spec := "fnExactDelayWithout", apart := false }
def FnExactDelayWithoutSaid : Prop := fnExactDelayWithoutRow.holds Try.pinned (OpenSpec.ofChange fnExactDelayWithoutSpec)

/-- ITS FALSE NEIGHBOUR: 'it returns false'. Refute it at one input. -/
def fnExactDelayWithoutWrong : ChangeSpec := { name := "fnExactDelayWithout", fn := fun _ => fun
  | [d1, d2, d3, d4] => { results := [.lit (.bool false)], args := [d1, d2, d3, d4] }
  | _ => none }
def FnExactDelayWithoutWrongFalsely : Prop := fnExactDelayWithoutRow.holds Try.pinned (OpenSpec.ofChange fnExactDelayWithoutWrong)

/-- 'laws.FnExactFirstArrival': WHATEVER THE INPUT: true; the input reads as it did. -/
def fnExactFirstArrivalSpec : ChangeSpec := { name := "fnExactFirstArrival", fn := fun _ => fun
  | [d1, d2, d3, d4, d5] => { results := [.lit (.bool true)], args := [d1, d2, d3, d4, d5] }
  | _ => none }
def fnExactFirstArrivalRow : OpenClaim := { program := "ythagdkmalchhgaa", sum := "0cf016e8c3858b018be984344f0d666d93225b727dacb8fe26ca8b805f119994", func := "loop.example/g00940/laws.FnExactFirstArrival", spec := "fnExactFirstArrival", apart := false }
def FnExactFirstArrivalSaid : Prop := fnExactFirstArrivalRow.holds Try.pinned (OpenSpec.ofChange fnExactFirstArrivalSpec)

/-- ITS FALSE NEIGHBOUR: 'it returns false'. Refute it at one input. -/
def fnExactFirstArrivalWrong : ChangeSpec := { name := "fnExactFirstArrival", fn := fun _ => fun
  | [d1, d2, d3, d4, d5] => { results := [.lit (.bool false)], args := [d1, d2, d3, d4, d5] }
  | _ => none }
def FnExactFirstArrivalWrongFalsely : Prop := fnExactFirstArrivalRow.holds Try.pinned (OpenSpec.ofChange fnExactFirstArrivalWrong)

/-- 'laws.FnExactLatestStart': WHATEVER THE INPUT: true; the input reads as it did. -/
def fnExactLatestStartSpec : ChangeSpec := { name := "fnExactLatestStart", fn := fun _ => fun
  | [d1, d2, d3, d4, d5] => { results := [.lit (.bool true)], args := [d1, d2, d3, d4, d5] }
  | _ => none }
def fnExactLatestStartRow : OpenClaim := { program := "ythagdkmalchhgaa", sum := "0cf016e8c3858b018be984344f0d666d93225b727dacb8fe26ca8b805f119994", func := "loop.example/g00940/laws.FnExactLatestStart", spec := "fnExactLatestStart", apart := false }
def FnExactLatestStartSaid : Prop := fnExactLatestStartRow.holds Try.pinned (OpenSpec.ofChange fnExactLatestStartSpec)

/-- ITS FALSE NEIGHBOUR: 'it returns false'. Refute it at one input. -/
def fnExactLatestStartWrong : ChangeSpec := { name := "fnExactLatestStart", fn := fun _ => fun
  | [d1, d2, d3, d4, d5] => { results := [.lit (.bool false)], args := [d1, d2, d3, d4, d5] }
  | _ => none }
def FnExactLatestStartWrongFalsely : Prop := fnExactLatestStartRow.holds Try.pinned (OpenSpec.ofChange fnExactLatestStartWrong)

/-- 'laws.FnExactFogDelay': WHATEVER THE INPUT: true; the input reads as it did. -/
def fnExactFogDelaySpec : ChangeSpec := { name := "fnExactFogDelay", fn := fun _ => fun
  | [d1, d2, d3, d4, d5] => { results := [.lit (.bool true)], args := [d1, d2, d3, d4, d5] }
  | _ => none }
def fnExactFogDelayRow : OpenClaim := { program := "ythagdkmalchhgaa", sum := "0cf016e8c3858b018be984344f0d666d93225b727dacb8fe26ca8b805f119994", func := "loop.example/g00940/laws.FnExactFogDelay", spec := "fnExactFogDelay", apart := false }
def FnExactFogDelaySaid : Prop := fnExactFogDelayRow.holds Try.pinned (OpenSpec.ofChange fnExactFogDelaySpec)

/-- ITS FALSE NEIGHBOUR: 'it returns false'. Refute it at one input. -/
def fnExactFogDelayWrong : ChangeSpec := { name := "fnExactFogDelay", fn := fun _ => fun
  | [d1, d2, d3, d4, d5] => { results := [.lit (.bool false)], args := [d1, d2, d3, d4, d5] }
  | _ => none }
def FnExactFogDelayWrongFalsely : Prop := fnExactFogDelayRow.holds Try.pinned (OpenSpec.ofChange fnExactFogDelayWrong)

/-- 'laws.FnExactClearWindows': WHATEVER THE INPUT: true; the input reads as it did. -/
def fnExactClearWindowsSpec : ChangeSpec := { name := "fnExactClearWindows", fn := fun _ => fun
  | [d1, d2, d3, d4, d5] => { results := [.lit (.bool true)], args := [d1, d2, d3, d4, d5] }
  | _ => none }
def fnExactClearWindowsRow : OpenClaim := { program := "ythagdkmalchhgaa", sum := "0cf016e8c3858b018be984344f0d666d93225b727dacb8fe26ca8b805f119994", func := "loop.example/g00940/laws.FnExactClearWindows", spec := "fnExactClearWindows", apart := false }
def FnExactClearWindowsSaid : Prop := fnExactClearWindowsRow.holds Try.pinned (OpenSpec.ofChange fnExactClearWindowsSpec)

/-- ITS FALSE NEIGHBOUR: 'it returns false'. Refute it at one input. -/
def fnExactClearWindowsWrong : ChangeSpec := { name := "fnExactClearWindows", fn := fun _ => fun
  | [d1, d2, d3, d4, d5] => { results := [.lit (.bool false)], args := [d1, d2, d3, d4, d5] }
  | _ => none }
def FnExactClearWindowsWrongFalsely : Prop := fnExactClearWindowsRow.holds Try.pinned (OpenSpec.ofChange fnExactClearWindowsWrong)

/-- 'laws.FnExactLinksThatMatter': WHATEVER THE INPUT: true; the input reads as it did. -/
def fnExactLinksThatMatterSpec : ChangeSpec := { name := "fnExactLinksThatMatter", fn := fun _ => fun
  | [d1, d2, d3] => { results := [.lit (.bool true)], args := [d1, d2, d3] }
  | _ => none }
def fnExactLinksThatMatterRow : OpenClaim := { program := "ythagdkmalchhgaa", sum := "0cf016e8c3858b018be984344f0d666d93225b727dacb8fe26ca8b805f119994", func := "loop.example/g00940/laws.FnExactLinksThatMatter", spec := "fnExactLinksThatMatter", apart := false }
def FnExactLinksThatMatterSaid : Prop := fnExactLinksThatMatterRow.holds Try.pinned (OpenSpec.ofChange fnExactLinksThatMatterSpec)

/-- ITS FALSE NEIGHBOUR: 'it returns false'. Refute it at one input. -/
def fnExactLinksThatMatterWrong : ChangeSpec := { name := "fnExactLinksThatMatter", fn := fun _ => fun
  | [d1, d2, d3] => { results := [.lit (.bool false)], args := [d1, d2, d3] }
  | _ => none }
def FnExactLinksThatMatterWrongFalsely : Prop := fnExactLinksThatMatterRow.holds Try.pinned (OpenSpec.ofChange fnExactLinksThatMatterWrong)

/-- 'laws.FnExactArrivalAlong': WHATEVER THE INPUT: true; the input reads as it did. -/
def fnExactArrivalAlongSpec : ChangeSpec := { name := "fnExactArrivalAlong", fn := fun _ => fun
  | [d1, d2, d3, d4] => { results := [.lit (.bool true)], args := [d1, d2, d3, d4] }
  | _ => none }
def fnExactArrivalAlongRow : OpenClaim := { program := "ythagdkmalchhgaa", sum := "0cf016e8c3858b018be984344f0d666d93225b727dacb8fe26ca8b805f119994", func := "loop.example/g00940/laws.FnExactArrivalAlong", spec := "fnExactArrivalAlong", unfollowed := true, recurses := true, apart := false }
def FnExactArrivalAlongSaid : Prop := fnExactArrivalAlongRow.holds Try.pinned (OpenSpec.ofChange fnExactArrivalAlongSpec)

/-- ITS FALSE NEIGHBOUR: 'it returns false'. Refute it at one input. -/
def fnExactArrivalAlongWrong : ChangeSpec := { name := "fnExactArrivalAlong", fn := fun _ => fun
  | [d1, d2, d3, d4] => { results := [.lit (.bool false)], args := [d1, d2, d3, d4] }
  | _ => none }
def FnExactArrivalAlongWrongFalsely : Prop := fnExactArrivalAlongRow.holds Try.pinned (OpenSpec.ofChange fnExactArrivalAlongWrong)

/-- 'laws.FnExactArrivalsFrom': WHATEVER THE INPUT: true; the input reads as it did. -/
def fnExactArrivalsFromSpec : ChangeSpec := { name := "fnExactArrivalsFrom", fn := fun _ => fun
  | [d1, d2, d3, d4] => { results := [.lit (.bool true)], args := [d1, d2, d3, d4] }
  | _ => none }
def fnExactArrivalsFromRow : OpenClaim := { program := "ythagdkmalchhgaa", sum := "0cf016e8c3858b018be984344f0d666d93225b727dacb8fe26ca8b805f119994", func := "loop.example/g00940/laws.FnExactArrivalsFrom", spec := "fnExactArrivalsFrom", apart := false }
def FnExactArrivalsFromSaid : Prop := fnExactArrivalsFromRow.holds Try.pinned (OpenSpec.ofChange fnExactArrivalsFromSpec)

/-- ITS FALSE NEIGHBOUR: 'it returns false'. Refute it at one input. -/
def fnExactArrivalsFromWrong : ChangeSpec := { name := "fnExactArrivalsFrom", fn := fun _ => fun
  | [d1, d2, d3, d4] => { results := [.lit (.bool false)], args := [d1, d2, d3, d4] }
  | _ => none }
def FnExactArrivalsFromWrongFalsely : Prop := fnExactArrivalsFromRow.holds Try.pinned (OpenSpec.ofChange fnExactArrivalsFromWrong)

/-- 'laws.FnExactWaitsAlong': WHATEVER THE INPUT: true; the input reads as it did. -/
def fnExactWaitsAlongSpec : ChangeSpec := { name := "fnExactWaitsAlong", fn := fun _ => fun
  | [d1, d2, d3, d4] => { results := [.lit (.bool true)], args := [d1, d2, d3, d4] }
  | _ => none }
def fnExactWaitsAlongRow : OpenClaim := { program := "ythagdkmalchhgaa", sum := "0cf016e8c3858b018be984344f0d666d93225b727dacb8fe26ca8b805f119994", func := "loop.example/g00940/laws.FnExactWaitsAlong", spec := "fnExactWaitsAlong", unfollowed := true, recurses := true, apart := false }
def FnExactWaitsAlongSaid : Prop := fnExactWaitsAlongRow.holds Try.pinned (OpenSpec.ofChange fnExactWaitsAlongSpec)

/-- ITS FALSE NEIGHBOUR: 'it returns false'. Refute it at one input. -/
def fnExactWaitsAlongWrong : ChangeSpec := { name := "fnExactWaitsAlong", fn := fun _ => fun
  | [d1, d2, d3, d4] => { results := [.lit (.bool false)], args := [d1, d2, d3, d4] }
  | _ => none }
def FnExactWaitsAlongWrongFalsely : Prop := fnExactWaitsAlongRow.holds Try.pinned (OpenSpec.ofChange fnExactWaitsAlongWrong)

/-- 'laws.FnExactWayThrough': WHATEVER THE INPUT: true; the input reads as it did. -/
def fnExactWayThroughSpec : ChangeSpec := { name := "fnExactWayThrough", fn := fun _ => fun
  | [d1, d2, d3, d4, d5] => { results := [.lit (.bool true)], args := [d1, d2, d3, d4, d5] }
  | _ => none }
def fnExactWayThroughRow : OpenClaim := { program := "ythagdkmalchhgaa", sum := "0cf016e8c3858b018be984344f0d666d93225b727dacb8fe26ca8b805f119994", func := "loop.example/g00940/laws.FnExactWayThrough", spec := "fnExactWayThrough", unfollowed := true, recurses := true, apart := false }
def FnExactWayThroughSaid : Prop := fnExactWayThroughRow.holds Try.pinned (OpenSpec.ofChange fnExactWayThroughSpec)

/-- ITS FALSE NEIGHBOUR: 'it returns false'. Refute it at one input. -/
def fnExactWayThroughWrong : ChangeSpec := { name := "fnExactWayThrough", fn := fun _ => fun
  | [d1, d2, d3, d4, d5] => { results := [.lit (.bool false)], args := [d1, d2, d3, d4, d5] }
  | _ => none }
def FnExactWayThroughWrongFalsely : Prop := fnExactWayThroughRow.holds Try.pinned (OpenSpec.ofChange fnExactWayThroughWrong)

/-- 'laws.FnClearTimes': WHATEVER THE INPUT: true; the input reads as it did. -/
def fnClearTimesSpec : ChangeSpec := { name := "fnClearTimes", fn := fun _ => fun
  | [d1, d2] => { results := [.lit (.bool true)], args := [d1, d2] }
  | _ => none }
def fnClearTimesRow : OpenClaim := { program := "ythagdkmalchhgaa", sum := "0cf016e8c3858b018be984344f0d666d93225b727dacb8fe26ca8b805f119994", func := "loop.example/g00940/laws.FnClearTimes", spec := "fnClearTimes", unfollowed := true, recurses := true, apart := false }
def FnClearTimesSaid : Prop := fnClearTimesRow.holds Try.pinned (OpenSpec.ofChange fnClearTimesSpec)

/-- ITS FALSE NEIGHBOUR: 'it returns false'. Refute it at one input. -/
def fnClearTimesWrong : ChangeSpec := { name := "fnClearTimes", fn := fun _ => fun
  | [d1, d2] => { results := [.lit (.bool false)], args := [d1, d2] }
  | _ => none }
def FnClearTimesWrongFalsely : Prop := fnClearTimesRow.holds Try.pinned (OpenSpec.ofChange fnClearTimesWrong)

/-- 'laws.FnWays': WHATEVER THE INPUT: true; the input reads as it did. -/
def fnWaysSpec : ChangeSpec := { name := "fnWays", fn := fun _ => fun
  | [d1, d2] => { results := [.lit (.bool true)], args := [d1, d2] }
  | _ => none }
def fnWaysRow : OpenClaim := { program := "ythagdkmalchhgaa", sum := "0cf016e8c3858b018be984344f0d666d93225b727dacb8fe26ca8b805f119994", func := "loop.example/g00940/laws.FnWays", spec := "fnWays", unfollowed := true, recurses := true, apart := false }
def FnWaysSaid : Prop := fnWaysRow.holds Try.pinned (OpenSpec.ofChange fnWaysSpec)

/-- ITS FALSE NEIGHBOUR: 'it returns false'. Refute it at one input. -/
def fnWaysWrong : ChangeSpec := { name := "fnWays", fn := fun _ => fun
  | [d1, d2] => { results := [.lit (.bool false)], args := [d1, d2] }
  | _ => none }
def FnWaysWrongFalsely : Prop := fnWaysRow.holds Try.pinned (OpenSpec.ofChange fnWaysWrong)

/-- 'laws.FnFirstArrivals': WHATEVER THE INPUT: true; the input reads as it did. -/
def fnFirstArrivalsSpec : ChangeSpec := { name := "fnFirstArrivals", fn := fun _ => fun
  | [d1, d2] => { results := [.lit (.bool true)], args := [d1, d2] }
  | _ => none }
def fnFirstArrivalsRow : OpenClaim := { program := "ythagdkmalchhgaa", sum := "0cf016e8c3858b018be984344f0d666d93225b727dacb8fe26ca8b805f119994", func := "loop.example/g00940/laws.FnFirstArrivals", spec := "fnFirstArrivals", unfollowed := true, recurses := true, apart := false }
def FnFirstArrivalsSaid : Prop := fnFirstArrivalsRow.holds Try.pinned (OpenSpec.ofChange fnFirstArrivalsSpec)

/-- ITS FALSE NEIGHBOUR: 'it returns false'. Refute it at one input. -/
def fnFirstArrivalsWrong : ChangeSpec := { name := "fnFirstArrivals", fn := fun _ => fun
  | [d1, d2] => { results := [.lit (.bool false)], args := [d1, d2] }
  | _ => none }
def FnFirstArrivalsWrongFalsely : Prop := fnFirstArrivalsRow.holds Try.pinned (OpenSpec.ofChange fnFirstArrivalsWrong)

/-- 'laws.FnExactAddFog': WHATEVER THE INPUT: true; the input reads as it did. -/
def fnExactAddFogSpec : ChangeSpec := { name := "fnExactAddFog", fn := fun _ => fun
  | [d1, d2, d3] => { results := [.lit (.bool true)], args := [d1, d2, d3] }
  | _ => none }
def fnExactAddFogRow : OpenClaim := { program := "ythagdkmalchhgaa", sum := "0cf016e8c3858b018be984344f0d666d93225b727dacb8fe26ca8b805f119994", func := "loop.example/g00940/laws.FnExactAddFog", spec := "fnExactAddFog", unfollowed := true, recurses := true, apart := false }
def FnExactAddFogSaid : Prop := fnExactAddFogRow.holds Try.pinned (OpenSpec.ofChange fnExactAddFogSpec)

/-- ITS FALSE NEIGHBOUR: 'it returns false'. Refute it at one input. -/
def fnExactAddFogWrong : ChangeSpec := { name := "fnExactAddFog", fn := fun _ => fun
  | [d1, d2, d3] => { results := [.lit (.bool false)], args := [d1, d2, d3] }
  | _ => none }
def FnExactAddFogWrongFalsely : Prop := fnExactAddFogRow.holds Try.pinned (OpenSpec.ofChange fnExactAddFogWrong)

/-- 'laws.FnFogs': WHATEVER THE INPUT: true; the input reads as it did. -/
def fnFogsSpec : ChangeSpec := { name := "fnFogs", fn := fun _ => fun
  | [d1, d2] => { results := [.lit (.bool true)], args := [d1, d2] }
  | _ => none }
def fnFogsRow : OpenClaim := { program := "ythagdkmalchhgaa", sum := "0cf016e8c3858b018be984344f0d666d93225b727dacb8fe26ca8b805f119994", func := "loop.example/g00940/laws.FnFogs", spec := "fnFogs", unfollowed := true, recurses := true, apart := false }
def FnFogsSaid : Prop := fnFogsRow.holds Try.pinned (OpenSpec.ofChange fnFogsSpec)

/-- ITS FALSE NEIGHBOUR: 'it returns false'. Refute it at one input. -/
def fnFogsWrong : ChangeSpec := { name := "fnFogs", fn := fun _ => fun
  | [d1, d2] => { results := [.lit (.bool false)], args := [d1, d2] }
  | _ => none }
def FnFogsWrongFalsely : Prop := fnFogsRow.holds Try.pinned (OpenSpec.ofChange fnFogsWrong)

/- THE SECOND FORM. 'bulk': how many values and letters a reading holds, each counted each time it is reached (what is shared counts as often as it is met; a slice's spare places count too). A statement '..UptoSaid' is the law's where the arguments, and the package variables that the reading takes, are together of bulk at most 1048576: NARROWER than '..Said'. Prove '..Said' where nothing that the law and all that it calls make is longer than what came in: it says more and counts as full. Else prove '..UptoSaid'. A law counts once. -/
mutual
def uptoBulk {H : Type} : DataW H → Nat
  | .lit (.string bytes) => bytes.length + 1
  | .lit _ => 1
  | .nil => 1
  | .ptr d => uptoBulk d + 1
  | .slice elems spare => uptoBulkAll elems + uptoBulkAll spare + 1
  | .agg parts => uptoBulkAll parts + 1
  | .iface _ d => uptoBulk d + 1
  | .map entries => uptoBulkEntries entries + 1
  | .held _ => 1
def uptoBulkAll {H : Type} : List (DataW H) → Nat
  | [] => 0
  | d :: r => uptoBulk d + uptoBulkAll r
def uptoBulkEntries {H : Type} : List (Lit × DataW H) → Nat
  | [] => 0
  | x :: r => uptoBulkEntry x + uptoBulkEntries r
def uptoBulkEntry {H : Type} : Lit × DataW H → Nat
  | (.string bytes, d) => bytes.length + uptoBulk d + 1
  | (_, d) => uptoBulk d + 1
 end
def uptoSmall : (H : Type) → List (DataW H) → Bool := fun _ ds => decide (uptoBulkAll ds ≤ 1048576)
def OpenSpec.upto (s : _root_.Go.ChangeSpec) : _root_.Go.OpenSpec := { _root_.Go.OpenSpec.ofChange s with cond := some uptoSmall }

/-- 'laws.FnExactPlainDelay', WHERE WHAT IT READS IS OF BULK AT MOST 1048576: true; the input reads as it did. -/
def fnExactPlainDelayUptoRow : OpenClaim := { program := "ythagdkmalchhgaa", sum := "0cf016e8c3858b018be984344f0d666d93225b727dacb8fe26ca8b805f119994", func := "loop.example/g00940/laws.FnExactPlainDelay", spec := "fnExactPlainDelay", apart := false, narrowed := true }
def FnExactPlainDelayUptoSaid : Prop := fnExactPlainDelayUptoRow.holds Try.pinned (OpenSpec.upto fnExactPlainDelaySpec)

/-- 'laws.FnExactDelayWithout', WHERE WHAT IT READS IS OF BULK AT MOST 1048576: true; the input reads as it did. -/
def fnExactDelayWithoutUptoRow : OpenClaim := { program := "ythagdkmalchhgaa", sum := "0cf016e8c3858b018be984344f0d666d93225b727dacb8fe26ca8b805f119994", func := "loop.example/g00940/laws.FnExactDelayWithout", spec := "fnExactDelayWithout", apart := false, narrowed := true }
def FnExactDelayWithoutUptoSaid : Prop := fnExactDelayWithoutUptoRow.holds Try.pinned (OpenSpec.upto fnExactDelayWithoutSpec)

/-- 'laws.FnExactFirstArrival', WHERE WHAT IT READS IS OF BULK AT MOST 1048576: true; the input reads as it did. -/
def fnExactFirstArrivalUptoRow : OpenClaim := { program := "ythagdkmalchhgaa", sum := "0cf016e8c3858b018be984344f0d666d93225b727dacb8fe26ca8b805f119994", func := "loop.example/g00940/laws.FnExactFirstArrival", spec := "fnExactFirstArrival", apart := false, narrowed := true }
def FnExactFirstArrivalUptoSaid : Prop := fnExactFirstArrivalUptoRow.holds Try.pinned (OpenSpec.upto fnExactFirstArrivalSpec)

/-- 'laws.FnExactLatestStart', WHERE WHAT IT READS IS OF BULK AT MOST 1048576: true; the input reads as it did. -/
def fnExactLatestStartUptoRow : OpenClaim := { program := "ythagdkmalchhgaa", sum := "0cf016e8c3858b018be984344f0d666d93225b727dacb8fe26ca8b805f119994", func := "loop.example/g00940/laws.FnExactLatestStart", spec := "fnExactLatestStart", apart := false, narrowed := true }
def FnExactLatestStartUptoSaid : Prop := fnExactLatestStartUptoRow.holds Try.pinned (OpenSpec.upto fnExactLatestStartSpec)

/-- 'laws.FnExactFogDelay', WHERE WHAT IT READS IS OF BULK AT MOST 1048576: true; the input reads as it did. -/
def fnExactFogDelayUptoRow : OpenClaim := { program := "ythagdkmalchhgaa", sum := "0cf016e8c3858b018be984344f0d666d93225b727dacb8fe26ca8b805f119994", func := "loop.example/g00940/laws.FnExactFogDelay", spec := "fnExactFogDelay", apart := false, narrowed := true }
def FnExactFogDelayUptoSaid : Prop := fnExactFogDelayUptoRow.holds Try.pinned (OpenSpec.upto fnExactFogDelaySpec)

/-- 'laws.FnExactClearWindows', WHERE WHAT IT READS IS OF BULK AT MOST 1048576: true; the input reads as it did. -/
def fnExactClearWindowsUptoRow : OpenClaim := { program := "ythagdkmalchhgaa", sum := "0cf016e8c3858b018be984344f0d666d93225b727dacb8fe26ca8b805f119994", func := "loop.example/g00940/laws.FnExactClearWindows", spec := "fnExactClearWindows", apart := false, narrowed := true }
def FnExactClearWindowsUptoSaid : Prop := fnExactClearWindowsUptoRow.holds Try.pinned (OpenSpec.upto fnExactClearWindowsSpec)

/-- 'laws.FnExactLinksThatMatter', WHERE WHAT IT READS IS OF BULK AT MOST 1048576: true; the input reads as it did. -/
def fnExactLinksThatMatterUptoRow : OpenClaim := { program := "ythagdkmalchhgaa", sum := "0cf016e8c3858b018be984344f0d666d93225b727dacb8fe26ca8b805f119994", func := "loop.example/g00940/laws.FnExactLinksThatMatter", spec := "fnExactLinksThatMatter", apart := false, narrowed := true }
def FnExactLinksThatMatterUptoSaid : Prop := fnExactLinksThatMatterUptoRow.holds Try.pinned (OpenSpec.upto fnExactLinksThatMatterSpec)

/-- 'laws.FnExactArrivalAlong', WHERE WHAT IT READS IS OF BULK AT MOST 1048576: true; the input reads as it did. -/
def fnExactArrivalAlongUptoRow : OpenClaim := { program := "ythagdkmalchhgaa", sum := "0cf016e8c3858b018be984344f0d666d93225b727dacb8fe26ca8b805f119994", func := "loop.example/g00940/laws.FnExactArrivalAlong", spec := "fnExactArrivalAlong", unfollowed := true, recurses := true, apart := false, narrowed := true }
def FnExactArrivalAlongUptoSaid : Prop := fnExactArrivalAlongUptoRow.holds Try.pinned (OpenSpec.upto fnExactArrivalAlongSpec)

/-- 'laws.FnExactArrivalsFrom', WHERE WHAT IT READS IS OF BULK AT MOST 1048576: true; the input reads as it did. -/
def fnExactArrivalsFromUptoRow : OpenClaim := { program := "ythagdkmalchhgaa", sum := "0cf016e8c3858b018be984344f0d666d93225b727dacb8fe26ca8b805f119994", func := "loop.example/g00940/laws.FnExactArrivalsFrom", spec := "fnExactArrivalsFrom", apart := false, narrowed := true }
def FnExactArrivalsFromUptoSaid : Prop := fnExactArrivalsFromUptoRow.holds Try.pinned (OpenSpec.upto fnExactArrivalsFromSpec)

/-- 'laws.FnExactWaitsAlong', WHERE WHAT IT READS IS OF BULK AT MOST 1048576: true; the input reads as it did. -/
def fnExactWaitsAlongUptoRow : OpenClaim := { program := "ythagdkmalchhgaa", sum := "0cf016e8c3858b018be984344f0d666d93225b727dacb8fe26ca8b805f119994", func := "loop.example/g00940/laws.FnExactWaitsAlong", spec := "fnExactWaitsAlong", unfollowed := true, recurses := true, apart := false, narrowed := true }
def FnExactWaitsAlongUptoSaid : Prop := fnExactWaitsAlongUptoRow.holds Try.pinned (OpenSpec.upto fnExactWaitsAlongSpec)

/-- 'laws.FnExactWayThrough', WHERE WHAT IT READS IS OF BULK AT MOST 1048576: true; the input reads as it did. -/
def fnExactWayThroughUptoRow : OpenClaim := { program := "ythagdkmalchhgaa", sum := "0cf016e8c3858b018be984344f0d666d93225b727dacb8fe26ca8b805f119994", func := "loop.example/g00940/laws.FnExactWayThrough", spec := "fnExactWayThrough", unfollowed := true, recurses := true, apart := false, narrowed := true }
def FnExactWayThroughUptoSaid : Prop := fnExactWayThroughUptoRow.holds Try.pinned (OpenSpec.upto fnExactWayThroughSpec)

/-- 'laws.FnClearTimes', WHERE WHAT IT READS IS OF BULK AT MOST 1048576: true; the input reads as it did. -/
def fnClearTimesUptoRow : OpenClaim := { program := "ythagdkmalchhgaa", sum := "0cf016e8c3858b018be984344f0d666d93225b727dacb8fe26ca8b805f119994", func := "loop.example/g00940/laws.FnClearTimes", spec := "fnClearTimes", unfollowed := true, recurses := true, apart := false, narrowed := true }
def FnClearTimesUptoSaid : Prop := fnClearTimesUptoRow.holds Try.pinned (OpenSpec.upto fnClearTimesSpec)

/-- 'laws.FnWays', WHERE WHAT IT READS IS OF BULK AT MOST 1048576: true; the input reads as it did. -/
def fnWaysUptoRow : OpenClaim := { program := "ythagdkmalchhgaa", sum := "0cf016e8c3858b018be984344f0d666d93225b727dacb8fe26ca8b805f119994", func := "loop.example/g00940/laws.FnWays", spec := "fnWays", unfollowed := true, recurses := true, apart := false, narrowed := true }
def FnWaysUptoSaid : Prop := fnWaysUptoRow.holds Try.pinned (OpenSpec.upto fnWaysSpec)

/-- 'laws.FnFirstArrivals', WHERE WHAT IT READS IS OF BULK AT MOST 1048576: true; the input reads as it did. -/
def fnFirstArrivalsUptoRow : OpenClaim := { program := "ythagdkmalchhgaa", sum := "0cf016e8c3858b018be984344f0d666d93225b727dacb8fe26ca8b805f119994", func := "loop.example/g00940/laws.FnFirstArrivals", spec := "fnFirstArrivals", unfollowed := true, recurses := true, apart := false, narrowed := true }
def FnFirstArrivalsUptoSaid : Prop := fnFirstArrivalsUptoRow.holds Try.pinned (OpenSpec.upto fnFirstArrivalsSpec)

/-- 'laws.FnExactAddFog', WHERE WHAT IT READS IS OF BULK AT MOST 1048576: true; the input reads as it did. -/
def fnExactAddFogUptoRow : OpenClaim := { program := "ythagdkmalchhgaa", sum := "0cf016e8c3858b018be984344f0d666d93225b727dacb8fe26ca8b805f119994", func := "loop.example/g00940/laws.FnExactAddFog", spec := "fnExactAddFog", unfollowed := true, recurses := true, apart := false, narrowed := true }
def FnExactAddFogUptoSaid : Prop := fnExactAddFogUptoRow.holds Try.pinned (OpenSpec.upto fnExactAddFogSpec)

/-- 'laws.FnFogs', WHERE WHAT IT READS IS OF BULK AT MOST 1048576: true; the input reads as it did. -/
def fnFogsUptoRow : OpenClaim := { program := "ythagdkmalchhgaa", sum := "0cf016e8c3858b018be984344f0d666d93225b727dacb8fe26ca8b805f119994", func := "loop.example/g00940/laws.FnFogs", spec := "fnFogs", unfollowed := true, recurses := true, apart := false, narrowed := true }
def FnFogsUptoSaid : Prop := fnFogsUptoRow.holds Try.pinned (OpenSpec.upto fnFogsSpec)

end Rows
end Go.Proofs.Ythagdkmalchhgaa
