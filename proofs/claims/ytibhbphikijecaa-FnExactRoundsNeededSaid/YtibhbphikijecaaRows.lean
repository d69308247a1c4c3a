/-
  No cell of these rows narrows 'for every input' (looked for: loops, veiled, ifaces, maps, wideKeys, modest, calm, conditions, laid).
  DERIVED. THE GIVEN ROWS OF THIS SEAT. 4 by the template 'for every input the law returns true; each argument reads behind the call as it read before'; 0 by the template 'total and deterministic' (their statements: YtibhbphikijecaaTotals.lean).
  GIVEN WITH THE SEED: the statements are not yours to turn. If you find one false, say at which input.
  Laid BY PROGRAM, IN A SANDBOX (cutbox-rows.mjs): the forced cells as the released guide's own fill.sh prints them over the translation 240ebaa1320c8a9d… (all of the seat's roots in one cut). By AI agents, Wed Nov 11 2026. No macro, syntax, notation, axiom, sorry.
-/
import Derived.Test.YtibhbphikijecaaChecked
import GoSem.Claim
import GoSem.ClaimJoined
import GoSem.ClaimMapViews
import Derived.JoinedTies
import Derived.KernelRfl
namespace Go.Proofs.Ytibhbphikijecaa
/- THE CELL 'sum', in the pinned program and in every row, IS THE sha256 OF THE DUMP (.gsa) THAT YtibhbphikijecaaProg.lean LOADS. Nothing in Lean hashes anything: it is a label: what it is worth is what the hold of that sum in a sandbox is worth. -/
noncomputable def Try.pinned : Pinned := { name := "ytibhbphikijecaa", sum := "240ebaa1320c8a9dfcb6507664dc8c7064c235005b5f1a74bce52712e9a443f9", checked := Try.checked }
namespace Rows
def none {H : Type} : Left H := { results := [], args := [] }

/-- 'laws.FnExactIsAckScript': WHATEVER THE INPUT: true; the input reads as it did. -/
def fnExactIsAckScriptSpec : ChangeSpec := { name := "fnExactIsAckScript", fn := fun _ => fun
  | [d] => { results := [.lit (.bool true)], args := [d] }
  | _ => none }
def fnExactIsAckScriptRow : OpenClaim := { program := "ytibhbphikijecaa", sum := "240ebaa1320c8a9dfcb6507664dc8c7064c235005b5f1a74bce52712e9a443f9", func := "loop.example/g00940/laws.FnExactIsAckScript", spec := "fnExactIsAckScript", apart := false }
def FnExactIsAckScriptSaid : Prop := fnExactIsAckScriptRow.holds Try.pinned (OpenSpec.ofChange fnExactIsAckScriptSpec)

/-- ITS FALSE NEIGHBOUR: 'it returns false'. Refute it at one input. -/
def fnExactIsAckScriptWrong : ChangeSpec := { name := "fnExactIsAckScript", fn := fun _ => fun
  | [d] => { results := [.lit (.bool false)], args := [d] }
  | _ => none }
def FnExactIsAckScriptWrongFalsely : Prop := fnExactIsAckScriptRow.holds Try.pinned (OpenSpec.ofChange fnExactIsAckScriptWrong)

/-- 'laws.FnExactDoubleArrivals': WHATEVER THE INPUT: true; the input reads as it did. -/
def fnExactDoubleArrivalsSpec : ChangeSpec := { name := "fnExactDoubleArrivals", fn := fun _ => fun
  | [d1, d2, d3] => { results := [.lit (.bool true)], args := [d1, d2, d3] }
  | _ => none }
def fnExactDoubleArrivalsRow : OpenClaim := { program := "ytibhbphikijecaa", sum := "240ebaa1320c8a9dfcb6507664dc8c7064c235005b5f1a74bce52712e9a443f9", func := "loop.example/g00940/laws.FnExactDoubleArrivals", spec := "fnExactDoubleArrivals", apart := false }
def FnExactDoubleArrivalsSaid : Prop := fnExactDoubleArrivalsRow.holds Try.pinned (OpenSpec.ofChange fnExactDoubleArrivalsSpec)

/-- ITS FALSE NEIGHBOUR: 'it returns false'. Refute it at one input. -/
def fnExactDoubleArrivalsWrong : ChangeSpec := { name := "fnExactDoubleArrivals", fn := fun _ => fun
  | [d1, d2, d3] => { results := [.lit (.bool false)], args := [d1, d2, d3] }
  | _ => none }
def FnExactDoubleArrivalsWrongFalsely : Prop := fnExactDoubleArrivalsRow.holds Try.pinned (OpenSpec.ofChange fnExactDoubleArrivalsWrong)

/-- 'laws.FnExactPacketsSent': WHATEVER THE INPUT: true; the input reads as it did. -/
def fnExactPacketsSentSpec : ChangeSpec := { name := "fnExactPacketsSent", fn := fun _ => fun
  | [d1, d2, d3] => { results := [.lit (.bool true)], args := [d1, d2, d3] }
  | _ => none }
def fnExactPacketsSentRow : OpenClaim := { program := "ytibhbphikijecaa", sum := "240ebaa1320c8a9dfcb6507664dc8c7064c235005b5f1a74bce52712e9a443f9", func := "loop.example/g00940/laws.FnExactPacketsSent", spec := "fnExactPacketsSent", apart := false }
def FnExactPacketsSentSaid : Prop := fnExactPacketsSentRow.holds Try.pinned (OpenSpec.ofChange fnExactPacketsSentSpec)

/-- ITS FALSE NEIGHBOUR: 'it returns false'. Refute it at one input. -/
def fnExactPacketsSentWrong : ChangeSpec := { name := "fnExactPacketsSent", fn := fun _ => fun
  | [d1, d2, d3] => { results := [.lit (.bool false)], args := [d1, d2, d3] }
  | _ => none }
def FnExactPacketsSentWrongFalsely : Prop := fnExactPacketsSentRow.holds Try.pinned (OpenSpec.ofChange fnExactPacketsSentWrong)

/-- 'laws.FnExactRoundsNeeded': WHATEVER THE INPUT: true; the input reads as it did. -/
def fnExactRoundsNeededSpec : ChangeSpec := { name := "fnExactRoundsNeeded", fn := fun _ => fun
  | [d1, d2, d3] => { results := [.lit (.bool true)], args := [d1, d2, d3] }
  | _ => none }
def fnExactRoundsNeededRow : OpenClaim := { program := "ytibhbphikijecaa", sum := "240ebaa1320c8a9dfcb6507664dc8c7064c235005b5f1a74bce52712e9a443f9", func := "loop.example/g00940/laws.FnExactRoundsNeeded", spec := "fnExactRoundsNeeded", apart := false }
def FnExactRoundsNeededSaid : Prop := fnExactRoundsNeededRow.holds Try.pinned (OpenSpec.ofChange fnExactRoundsNeededSpec)

/-- ITS FALSE NEIGHBOUR: 'it returns false'. Refute it at one input. -/
def fnExactRoundsNeededWrong : ChangeSpec := { name := "fnExactRoundsNeeded", fn := fun _ => fun
  | [d1, d2, d3] => { results := [.lit (.bool false)], args := [d1, d2, d3] }
  | _ => none }
def FnExactRoundsNeededWrongFalsely : Prop := fnExactRoundsNeededRow.holds Try.pinned (OpenSpec.ofChange fnExactRoundsNeededWrong)

/- THE SECOND FORM. 'bulk': how many values and letters a reading holds, each counted each time it is reached (what is shared counts as often as it is met; a slice's spare places count too). A statement '..UptoSaid' is the law's where the arguments, and the package variables that the reading takes, are together of bulk at most 1048576: NARROWER than '..Said'. Prove '..Said' where nothing that the law and all that it calls make is longer than what came in: it says more and counts as full. Else prove '..UptoSaid'. A law counts once. -/
mutual
def uptoBulk {H : Type} : DataW H → Nat
  | .lit (.string bytes) => bytes.length + 1
  | .lit _ => 1
  | .nil => 1
  | .ptr d => uptoBulk d + 1
  | .slice elems spare => uptoBulkAll elems + uptoBulkAll spare + 1
  | .agg parts => uptoBulkAll parts + 1
  | .iface _ d => uptoBulk d + 1
  | .map entries => uptoBulkEntries entries + 1
  | .held _ => 1
def uptoBulkAll {H : Type} : List (DataW H) → Nat
  | [] => 0
  | d :: r => uptoBulk d + uptoBulkAll r
def uptoBulkEntries {H : Type} : List (Lit × DataW H) → Nat
  | [] => 0
  | x :: r => uptoBulkEntry x + uptoBulkEntries r
def uptoBulkEntry {H : Type} : Lit × DataW H → Nat
  | (.string bytes, d) => bytes.length + uptoBulk d + 1
  | (_, d) => uptoBulk d + 1
 end
def uptoSmall : (H : Type) → List (DataW H) → Bool := fun _ ds => decide (uptoBulkAll ds ≤ 1048576)
def OpenSpec.upto (s : _root_.Go.ChangeSpec) : _root_.Go.OpenSpec := { _root_.Go.OpenSpec.ofChange s with cond := some uptoSmall }

/-- 'laws.FnExactIsAckScript', WHERE WHAT IT READS IS OF BULK AT MOST 1048576: true; the input reads as it did. -/
def fnExactIsAckScriptUptoRow : OpenClaim := { program := "ytibhbphikijecaa", sum := "240ebaa1320c8a9dfcb6507664dc8c7064c235005b5f1a74bce52712e9a443f9", func := "loop.example/g00940/laws.FnExactIsAckScript", spec := "fnExactIsAckScript", apart := false, narrowed := true }
def FnExactIsAckScriptUptoSaid : Prop := fnExactIsAckScriptUptoRow.holds Try.pinned (OpenSpec.upto fnExactIsAckScriptSpec)

/-- 'laws.FnExactDoubleArrivals', WHERE WHAT IT READS IS OF BULK AT MOST 1048576: true; the input reads as it did. -/
def fnExactDoubleArrivalsUptoRow : OpenClaim := { program := "ytibhbphikijecaa", sum := "240ebaa1320c8a9dfcb6507664dc8c7064c235005b5f1a74bce52712e9a443f9", func := "loop.example/g00940/laws.FnExactDoubleArrivals", spec := "fnExactDoubleArrivals", apart := false, narrowed := true }
def FnExactDoubleArrivalsUptoSaid : Prop := fnExactDoubleArrivalsUptoRow.holds Try.pinned (OpenSpec.upto fnExactDoubleArrivalsSpec)

/-- 'laws.FnExactPacketsSent', WHERE WHAT IT READS IS OF BULK AT MOST 1048576: true; the input reads as it did. -/
def fnExactPacketsSentUptoRow : OpenClaim := { program := "ytibhbphikijecaa", sum := "240ebaa1320c8a9dfcb6507664dc8c7064c235005b5f1a74bce52712e9a443f9", func := "loop.example/g00940/laws.FnExactPacketsSent", spec := "fnExactPacketsSent", apart := false, narrowed := true }
def FnExactPacketsSentUptoSaid : Prop := fnExactPacketsSentUptoRow.holds Try.pinned (OpenSpec.upto fnExactPacketsSentSpec)

/-- 'laws.FnExactRoundsNeeded', WHERE WHAT IT READS IS OF BULK AT MOST 1048576: true; the input reads as it did. -/
def fnExactRoundsNeededUptoRow : OpenClaim := { program := "ytibhbphikijecaa", sum := "240ebaa1320c8a9dfcb6507664dc8c7064c235005b5f1a74bce52712e9a443f9", func := "loop.example/g00940/laws.FnExactRoundsNeeded", spec := "fnExactRoundsNeeded", apart := false, narrowed := true }
def FnExactRoundsNeededUptoSaid : Prop := fnExactRoundsNeededUptoRow.holds Try.pinned (OpenSpec.upto fnExactRoundsNeededSpec)

end Rows
end Go.Proofs.Ytibhbphikijecaa
