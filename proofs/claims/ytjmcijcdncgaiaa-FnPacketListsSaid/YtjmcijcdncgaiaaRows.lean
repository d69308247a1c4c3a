/-
  No cell of these rows narrows 'for every input' (looked for: loops, veiled, ifaces, maps, wideKeys, modest, calm, conditions, laid).
  DERIVED. THE GIVEN ROWS OF THIS SEAT. 10 by the template 'for every input the law returns true; each argument reads behind the call as it read before'; 0 by the template 'total and deterministic' (their statements: YtjmcijcdncgaiaaTotals.lean).
  GIVEN WITH THE SEED: the statements are not yours to turn. If you find one false, say at which input.
  Laid BY PROGRAM, IN A SANDBOX (cutbox-rows.mjs): the forced cells as the released guide's own fill.sh prints them over the translation 8a780edecfb2c13f… (all of the seat's roots in one cut). By AI agents, Wed Nov 11 2026. No macro, syntax, notation, axiom, sorry.
-/
import Derived.Test.YtjmcijcdncgaiaaChecked
import GoSem.Claim
import GoSem.ClaimJoined
import GoSem.ClaimMapViews
import Derived.JoinedTies
import Derived.KernelRfl
namespace Go.Proofs.Ytjmcijcdncgaiaa
/- THE CELL 'sum', in the pinned program and in every row, IS THE sha256 OF THE DUMP (.gsa) THAT YtjmcijcdncgaiaaProg.lean LOADS. Nothing in Lean hashes anything: it is a label: what it is worth is what the hold of that sum in a sandbox is worth. -/
noncomputable def Try.pinned : Pinned := { name := "ytjmcijcdncgaiaa", sum := "8a780edecfb2c13f2d6e7c3c0c3450cf088fe6adba739908b09e48eb7d92efda", checked := Try.checked }
namespace Rows
def none {H : Type} : Left H := { results := [], args := [] }

/-- 'laws.FnExactIsPacket': WHATEVER THE INPUT: true; the input reads as it did. -/
def fnExactIsPacketSpec : ChangeSpec := { name := "fnExactIsPacket", fn := fun _ => fun
  | [d] => { results := [.lit (.bool true)], args := [d] }
  | _ => none }
def fnExactIsPacketRow : OpenClaim := { program := "ytjmcijcdncgaiaa", sum := "8a780edecfb2c13f2d6e7c3c0c3450cf088fe6adba739908b09e48eb7d92efda", func := "loop.example/g00940/laws.FnExactIsPacket", spec := "fnExactIsPacket", apart := false }
def FnExactIsPacketSaid : Prop := fnExactIsPacketRow.holds Try.pinned (OpenSpec.ofChange fnExactIsPacketSpec)

/-- ITS FALSE NEIGHBOUR: 'it returns false'. Refute it at one input. -/
def fnExactIsPacketWrong : ChangeSpec := { name := "fnExactIsPacket", fn := fun _ => fun
  | [d] => { results := [.lit (.bool false)], args := [d] }
  | _ => none }
def FnExactIsPacketWrongFalsely : Prop := fnExactIsPacketRow.holds Try.pinned (OpenSpec.ofChange fnExactIsPacketWrong)

/-- 'laws.FnExactArePackets': WHATEVER THE INPUT: true; the input reads as it did. -/
def fnExactArePacketsSpec : ChangeSpec := { name := "fnExactArePackets", fn := fun _ => fun
  | [d] => { results := [.lit (.bool true)], args := [d] }
  | _ => none }
def fnExactArePacketsRow : OpenClaim := { program := "ytjmcijcdncgaiaa", sum := "8a780edecfb2c13f2d6e7c3c0c3450cf088fe6adba739908b09e48eb7d92efda", func := "loop.example/g00940/laws.FnExactArePackets", spec := "fnExactArePackets", unfollowed := true, recurses := true, apart := false }
def FnExactArePacketsSaid : Prop := fnExactArePacketsRow.holds Try.pinned (OpenSpec.ofChange fnExactArePacketsSpec)

/-- ITS FALSE NEIGHBOUR: 'it returns false'. Refute it at one input. -/
def fnExactArePacketsWrong : ChangeSpec := { name := "fnExactArePackets", fn := fun _ => fun
  | [d] => { results := [.lit (.bool false)], args := [d] }
  | _ => none }
def FnExactArePacketsWrongFalsely : Prop := fnExactArePacketsRow.holds Try.pinned (OpenSpec.ofChange fnExactArePacketsWrong)

/-- 'laws.FnPacketLists': WHATEVER THE INPUT: true; the input reads as it did. -/
def fnPacketListsSpec : ChangeSpec := { name := "fnPacketLists", fn := fun _ => fun
  | [d1, d2] => { results := [.lit (.bool true)], args := [d1, d2] }
  | _ => none }
def fnPacketListsRow : OpenClaim := { program := "ytjmcijcdncgaiaa", sum := "8a780edecfb2c13f2d6e7c3c0c3450cf088fe6adba739908b09e48eb7d92efda", func := "loop.example/g00940/laws.FnPacketLists", spec := "fnPacketLists", unfollowed := true, recurses := true, apart := false }
def FnPacketListsSaid : Prop := fnPacketListsRow.holds Try.pinned (OpenSpec.ofChange fnPacketListsSpec)

/-- ITS FALSE NEIGHBOUR: 'it returns false'. Refute it at one input. -/
def fnPacketListsWrong : ChangeSpec := { name := "fnPacketLists", fn := fun _ => fun
  | [d1, d2] => { results := [.lit (.bool false)], args := [d1, d2] }
  | _ => none }
def FnPacketListsWrongFalsely : Prop := fnPacketListsRow.holds Try.pinned (OpenSpec.ofChange fnPacketListsWrong)

/-- 'laws.FnExactSplitMessage': WHATEVER THE INPUT: true; the input reads as it did. -/
def fnExactSplitMessageSpec : ChangeSpec := { name := "fnExactSplitMessage", fn := fun _ => fun
  | [d1, d2, d3] => { results := [.lit (.bool true)], args := [d1, d2, d3] }
  | _ => none }
def fnExactSplitMessageRow : OpenClaim := { program := "ytjmcijcdncgaiaa", sum := "8a780edecfb2c13f2d6e7c3c0c3450cf088fe6adba739908b09e48eb7d92efda", func := "loop.example/g00940/laws.FnExactSplitMessage", spec := "fnExactSplitMessage", apart := false }
def FnExactSplitMessageSaid : Prop := fnExactSplitMessageRow.holds Try.pinned (OpenSpec.ofChange fnExactSplitMessageSpec)

/-- ITS FALSE NEIGHBOUR: 'it returns false'. Refute it at one input. -/
def fnExactSplitMessageWrong : ChangeSpec := { name := "fnExactSplitMessage", fn := fun _ => fun
  | [d1, d2, d3] => { results := [.lit (.bool false)], args := [d1, d2, d3] }
  | _ => none }
def FnExactSplitMessageWrongFalsely : Prop := fnExactSplitMessageRow.holds Try.pinned (OpenSpec.ofChange fnExactSplitMessageWrong)

/-- 'laws.FnExactConflictsIn': WHATEVER THE INPUT: true; the input reads as it did. -/
def fnExactConflictsInSpec : ChangeSpec := { name := "fnExactConflictsIn", fn := fun _ => fun
  | [d] => { results := [.lit (.bool true)], args := [d] }
  | _ => none }
def fnExactConflictsInRow : OpenClaim := { program := "ytjmcijcdncgaiaa", sum := "8a780edecfb2c13f2d6e7c3c0c3450cf088fe6adba739908b09e48eb7d92efda", func := "loop.example/g00940/laws.FnExactConflictsIn", spec := "fnExactConflictsIn", unfollowed := true, recurses := true, apart := false }
def FnExactConflictsInSaid : Prop := fnExactConflictsInRow.holds Try.pinned (OpenSpec.ofChange fnExactConflictsInSpec)

/-- ITS FALSE NEIGHBOUR: 'it returns false'. Refute it at one input. -/
def fnExactConflictsInWrong : ChangeSpec := { name := "fnExactConflictsIn", fn := fun _ => fun
  | [d] => { results := [.lit (.bool false)], args := [d] }
  | _ => none }
def FnExactConflictsInWrongFalsely : Prop := fnExactConflictsInRow.holds Try.pinned (OpenSpec.ofChange fnExactConflictsInWrong)

/-- 'laws.FnExactWithoutDoubles': WHATEVER THE INPUT: true; the input reads as it did. -/
def fnExactWithoutDoublesSpec : ChangeSpec := { name := "fnExactWithoutDoubles", fn := fun _ => fun
  | [d] => { results := [.lit (.bool true)], args := [d] }
  | _ => none }
def fnExactWithoutDoublesRow : OpenClaim := { program := "ytjmcijcdncgaiaa", sum := "8a780edecfb2c13f2d6e7c3c0c3450cf088fe6adba739908b09e48eb7d92efda", func := "loop.example/g00940/laws.FnExactWithoutDoubles", spec := "fnExactWithoutDoubles", unfollowed := true, recurses := true, apart := false }
def FnExactWithoutDoublesSaid : Prop := fnExactWithoutDoublesRow.holds Try.pinned (OpenSpec.ofChange fnExactWithoutDoublesSpec)

/-- ITS FALSE NEIGHBOUR: 'it returns false'. Refute it at one input. -/
def fnExactWithoutDoublesWrong : ChangeSpec := { name := "fnExactWithoutDoubles", fn := fun _ => fun
  | [d] => { results := [.lit (.bool false)], args := [d] }
  | _ => none }
def FnExactWithoutDoublesWrongFalsely : Prop := fnExactWithoutDoublesRow.holds Try.pinned (OpenSpec.ofChange fnExactWithoutDoublesWrong)

/-- 'laws.FnExactMissingParts': WHATEVER THE INPUT: true; the input reads as it did. -/
def fnExactMissingPartsSpec : ChangeSpec := { name := "fnExactMissingParts", fn := fun _ => fun
  | [d1, d2] => { results := [.lit (.bool true)], args := [d1, d2] }
  | _ => none }
def fnExactMissingPartsRow : OpenClaim := { program := "ytjmcijcdncgaiaa", sum := "8a780edecfb2c13f2d6e7c3c0c3450cf088fe6adba739908b09e48eb7d92efda", func := "loop.example/g00940/laws.FnExactMissingParts", spec := "fnExactMissingParts", unfollowed := true, recurses := true, apart := false }
def FnExactMissingPartsSaid : Prop := fnExactMissingPartsRow.holds Try.pinned (OpenSpec.ofChange fnExactMissingPartsSpec)

/-- ITS FALSE NEIGHBOUR: 'it returns false'. Refute it at one input. -/
def fnExactMissingPartsWrong : ChangeSpec := { name := "fnExactMissingParts", fn := fun _ => fun
  | [d1, d2] => { results := [.lit (.bool false)], args := [d1, d2] }
  | _ => none }
def FnExactMissingPartsWrongFalsely : Prop := fnExactMissingPartsRow.holds Try.pinned (OpenSpec.ofChange fnExactMissingPartsWrong)

/-- 'laws.FnExactJoinMessage': WHATEVER THE INPUT: true; the input reads as it did. -/
def fnExactJoinMessageSpec : ChangeSpec := { name := "fnExactJoinMessage", fn := fun _ => fun
  | [d1, d2] => { results := [.lit (.bool true)], args := [d1, d2] }
  | _ => none }
def fnExactJoinMessageRow : OpenClaim := { program := "ytjmcijcdncgaiaa", sum := "8a780edecfb2c13f2d6e7c3c0c3450cf088fe6adba739908b09e48eb7d92efda", func := "loop.example/g00940/laws.FnExactJoinMessage", spec := "fnExactJoinMessage", unfollowed := true, recurses := true, apart := false }
def FnExactJoinMessageSaid : Prop := fnExactJoinMessageRow.holds Try.pinned (OpenSpec.ofChange fnExactJoinMessageSpec)

/-- ITS FALSE NEIGHBOUR: 'it returns false'. Refute it at one input. -/
def fnExactJoinMessageWrong : ChangeSpec := { name := "fnExactJoinMessage", fn := fun _ => fun
  | [d1, d2] => { results := [.lit (.bool false)], args := [d1, d2] }
  | _ => none }
def FnExactJoinMessageWrongFalsely : Prop := fnExactJoinMessageRow.holds Try.pinned (OpenSpec.ofChange fnExactJoinMessageWrong)

/-- 'laws.FnExactSortPackets': WHATEVER THE INPUT: true; the input reads as it did. -/
def fnExactSortPacketsSpec : ChangeSpec := { name := "fnExactSortPackets", fn := fun _ => fun
  | [d] => { results := [.lit (.bool true)], args := [d] }
  | _ => none }
def fnExactSortPacketsRow : OpenClaim := { program := "ytjmcijcdncgaiaa", sum := "8a780edecfb2c13f2d6e7c3c0c3450cf088fe6adba739908b09e48eb7d92efda", func := "loop.example/g00940/laws.FnExactSortPackets", spec := "fnExactSortPackets", unfollowed := true, recurses := true, apart := false }
def FnExactSortPacketsSaid : Prop := fnExactSortPacketsRow.holds Try.pinned (OpenSpec.ofChange fnExactSortPacketsSpec)

/-- ITS FALSE NEIGHBOUR: 'it returns false'. Refute it at one input. -/
def fnExactSortPacketsWrong : ChangeSpec := { name := "fnExactSortPackets", fn := fun _ => fun
  | [d] => { results := [.lit (.bool false)], args := [d] }
  | _ => none }
def FnExactSortPacketsWrongFalsely : Prop := fnExactSortPacketsRow.holds Try.pinned (OpenSpec.ofChange fnExactSortPacketsWrong)

/-- 'laws.FnExactMessagesIn': WHATEVER THE INPUT: true; the input reads as it did. -/
def fnExactMessagesInSpec : ChangeSpec := { name := "fnExactMessagesIn", fn := fun _ => fun
  | [d] => { results := [.lit (.bool true)], args := [d] }
  | _ => none }
def fnExactMessagesInRow : OpenClaim := { program := "ytjmcijcdncgaiaa", sum := "8a780edecfb2c13f2d6e7c3c0c3450cf088fe6adba739908b09e48eb7d92efda", func := "loop.example/g00940/laws.FnExactMessagesIn", spec := "fnExactMessagesIn", unfollowed := true, recurses := true, apart := false }
def FnExactMessagesInSaid : Prop := fnExactMessagesInRow.holds Try.pinned (OpenSpec.ofChange fnExactMessagesInSpec)

/-- ITS FALSE NEIGHBOUR: 'it returns false'. Refute it at one input. -/
def fnExactMessagesInWrong : ChangeSpec := { name := "fnExactMessagesIn", fn := fun _ => fun
  | [d] => { results := [.lit (.bool false)], args := [d] }
  | _ => none }
def FnExactMessagesInWrongFalsely : Prop := fnExactMessagesInRow.holds Try.pinned (OpenSpec.ofChange fnExactMessagesInWrong)

/- THE SECOND FORM. 'bulk': how many values and letters a reading holds, each counted each time it is reached (what is shared counts as often as it is met; a slice's spare places count too). A statement '..UptoSaid' is the law's where the arguments, and the package variables that the reading takes, are together of bulk at most 1048576: NARROWER than '..Said'. Prove '..Said' where nothing that the law and all that it calls make is longer than what came in: it says more and counts as full. Else prove '..UptoSaid'. A law counts once. -/
mutual
def uptoBulk {H : Type} : DataW H → Nat
  | .lit (.string bytes) => bytes.length + 1
  | .lit _ => 1
  | .nil => 1
  | .ptr d => uptoBulk d + 1
  | .slice elems spare => uptoBulkAll elems + uptoBulkAll spare + 1
  | .agg parts => uptoBulkAll parts + 1
  | .iface _ d => uptoBulk d + 1
  | .map entries => uptoBulkEntries entries + 1
  | .held _ => 1
def uptoBulkAll {H : Type} : List (DataW H) → Nat
  | [] => 0
  | d :: r => uptoBulk d + uptoBulkAll r
def uptoBulkEntries {H : Type} : List (Lit × DataW H) → Nat
  | [] => 0
  | x :: r => uptoBulkEntry x + uptoBulkEntries r
def uptoBulkEntry {H : Type} : Lit × DataW H → Nat
  | (.string bytes, d) => bytes.length + uptoBulk d + 1
  | (_, d) => uptoBulk d + 1
 end
def uptoSmall : (H : Type) → List (DataW H) → Bool := fun _ ds => decide (uptoBulkAll ds ≤ 1048576)
def OpenSpec.upto (s : _root_.Go.ChangeSpec) : _root_.Go.OpenSpec := { _root_.Go.OpenSpec.ofChange s with cond := some uptoSmall }

/-- 'laws.FnExactIsPacket', WHERE WHAT IT READS IS OF BULK AT MOST 1048576: true; the input reads as it did. -/
def fnExactIsPacketUptoRow : OpenClaim := { program := "ytjmcijcdncgaiaa", sum := "8a780edecfb2c13f2d6e7c3c0c3450cf088fe6adba739908b09e48eb7d92efda", func := "loop.example/g00940/laws.FnExactIsPacket", spec := "fnExactIsPacket", apart := false, narrowed := true }
def FnExactIsPacketUptoSaid : Prop := fnExactIsPacketUptoRow.holds Try.pinned (OpenSpec.upto fnExactIsPacketSpec)

/-- 'laws.FnExactArePackets', WHERE WHAT IT READS IS OF BULK AT MOST 1048576: true; the input reads as it did. -/
def fnExactArePacketsUptoRow : OpenClaim := { program := "ytjmcijcdncgaiaa", sum := "8a780edecfb2c13f2d6e7c3c0c3450cf088fe6adba739908b09e48eb7d92efda", func := "loop.example/g00940/laws.FnExactArePackets", spec := "fnExactArePackets", unfollowed := true, recurses := true, apart := false, narrowed := true }
def FnExactArePacketsUptoSaid : Prop := fnExactArePacketsUptoRow.holds Try.pinned (OpenSpec.upto fnExactArePacketsSpec)

/-- 'laws.FnPacketLists', WHERE WHAT IT READS IS OF BULK AT MOST 1048576: true; the input reads as it did. -/
def fnPacketListsUptoRow : OpenClaim := { program := "ytjmcijcdncgaiaa", sum := "8a780edecfb2c13f2d6e7c3c0c3450cf088fe6adba739908b09e48eb7d92efda", func := "loop.example/g00940/laws.FnPacketLists", spec := "fnPacketLists", unfollowed := true, recurses := true, apart := false, narrowed := true }
def FnPacketListsUptoSaid : Prop := fnPacketListsUptoRow.holds Try.pinned (OpenSpec.upto fnPacketListsSpec)

/-- 'laws.FnExactSplitMessage', WHERE WHAT IT READS IS OF BULK AT MOST 1048576: true; the input reads as it did. -/
def fnExactSplitMessageUptoRow : OpenClaim := { program := "ytjmcijcdncgaiaa", sum := "8a780edecfb2c13f2d6e7c3c0c3450cf088fe6adba739908b09e48eb7d92efda", func := "loop.example/g00940/laws.FnExactSplitMessage", spec := "fnExactSplitMessage", apart := false, narrowed := true }
def FnExactSplitMessageUptoSaid : Prop := fnExactSplitMessageUptoRow.holds Try.pinned (OpenSpec.upto fnExactSplitMessageSpec)

/-- 'laws.FnExactConflictsIn', WHERE WHAT IT READS IS OF BULK AT MOST 1048576: true; the input reads as it did. -/
def fnExactConflictsInUptoRow : OpenClaim := { program := "ytjmcijcdncgaiaa", sum := "8a780edecfb2c13f2d6e7c3c0c3450cf088fe6adba739908b09e48eb7d92efda", func := "loop.example/g00940/laws.FnExactConflictsIn", spec := "fnExactConflictsIn", unfollowed := true, recurses := true, apart := false, narrowed := true }
def FnExactConflictsInUptoSaid : Prop := fnExactConflictsInUptoRow.holds Try.pinned (OpenSpec.upto fnExactConflictsInSpec)

/-- 'laws.FnExactWithoutDoubles', WHERE WHAT IT READS IS OF BULK AT MOST 1048576: true; the input reads as it did. -/
def fnExactWithoutDoublesUptoRow : OpenClaim := { program := "ytjmcijcdncgaiaa", sum := "8a780edecfb2c13f2d6e7c3c0c3450cf088fe6adba739908b09e48eb7d92efda", func := "loop.example/g00940/laws.FnExactWithoutDoubles", spec := "fnExactWithoutDoubles", unfollowed := true, recurses := true, apart := false, narrowed := true }
def FnExactWithoutDoublesUptoSaid : Prop := fnExactWithoutDoublesUptoRow.holds Try.pinned (OpenSpec.upto fnExactWithoutDoublesSpec)

/-- 'laws.FnExactMissingParts', WHERE WHAT IT READS IS OF BULK AT MOST 1048576: true; the input reads as it did. -/
def fnExactMissingPartsUptoRow : OpenClaim := { program := "ytjmcijcdncgaiaa", sum := "8a780edecfb2c13f2d6e7c3c0c3450cf088fe6adba739908b09e48eb7d92efda", func := "loop.example/g00940/laws.FnExactMissingParts", spec := "fnExactMissingParts", unfollowed := true, recurses := true, apart := false, narrowed := true }
def FnExactMissingPartsUptoSaid : Prop := fnExactMissingPartsUptoRow.holds Try.pinned (OpenSpec.upto fnExactMissingPartsSpec)

/-- 'laws.FnExactJoinMessage', WHERE WHAT IT READS IS OF BULK AT MOST 1048576: true; the input reads as it did. -/
def fnExactJoinMessageUptoRow : OpenClaim := { program := "ytjmcijcdncgaiaa", sum := "8a780edecfb2c13f2d6e7c3c0c3450cf088fe6adba739908b09e48eb7d92efda", func := "loop.example/g00940/laws.FnExactJoinMessage", spec := "fnExactJoinMessage", unfollowed := true, recurses := true, apart := false, narrowed := true }
def FnExactJoinMessageUptoSaid : Prop := fnExactJoinMessageUptoRow.holds Try.pinned (OpenSpec.upto fnExactJoinMessageSpec)

/-- 'laws.FnExactSortPackets', WHERE WHAT IT READS IS OF BULK AT MOST 1048576: true; the input reads as it did. -/
def fnExactSortPacketsUptoRow : OpenClaim := { program := "ytjmcijcdncgaiaa", sum := "8a780edecfb2c13f2d6e7c3c0c3450cf088fe6adba739908b09e48eb7d92efda", func := "loop.example/g00940/laws.FnExactSortPackets", spec := "fnExactSortPackets", unfollowed := true, recurses := true, apart := false, narrowed := true }
def FnExactSortPacketsUptoSaid : Prop := fnExactSortPacketsUptoRow.holds Try.pinned (OpenSpec.upto fnExactSortPacketsSpec)

/-- 'laws.FnExactMessagesIn', WHERE WHAT IT READS IS OF BULK AT MOST 1048576: true; the input reads as it did. -/
def fnExactMessagesInUptoRow : OpenClaim := { program := "ytjmcijcdncgaiaa", sum := "8a780edecfb2c13f2d6e7c3c0c3450cf088fe6adba739908b09e48eb7d92efda", func := "loop.example/g00940/laws.FnExactMessagesIn", spec := "fnExactMessagesIn", unfollowed := true, recurses := true, apart := false, narrowed := true }
def FnExactMessagesInUptoSaid : Prop := fnExactMessagesInUptoRow.holds Try.pinned (OpenSpec.upto fnExactMessagesInSpec)

end Rows
end Go.Proofs.Ytjmcijcdncgaiaa
