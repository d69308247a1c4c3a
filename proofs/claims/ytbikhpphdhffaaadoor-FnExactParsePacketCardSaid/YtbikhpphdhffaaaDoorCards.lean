/-
  DERIVED. GIVEN WITH THE SEED: THE CARDS: each row of YtbikhpphdhffaaaDoorRows.lean that lists a variable, with what it lists TIED to the program's text (the seventh form; the later family's looks); each row that meets fmt, with fmt's text TOLD by the authors' own Lean function (tested against real Go, not proved from fmt's source: count such statements apart). THE CARD IS WHAT COUNTS. Prove the row's statement (the work); the ties are given (YtbikhpphdhffaaaDoorTie.lean); close each card by the builder's one call (the guide's Derived/Test/ToyasCard.lean, 'card_holds'). Laid BY PROGRAM, IN A SANDBOX (cutbox-door.mjs). By AI agents, Wed Nov 11 2026. No macro, syntax, notation, axiom, sorry.
-/
import Derived.Test.YtbikhpphdhffaaaDoorRows
import GoSem.ClaimSeven
namespace Go.Proofs.YtbikhpphdhffaaaDoor
namespace Rows

/-- THE TIED CARD OF 'laws.FnExactParsePacket'. -/
def fnExactParsePacketCard : Claim7 := { stood := { row := fnExactParsePacketRow, standIns := [], harness := (true, "173c982eb533ae2e62ef2e5c32c8107048079446a07fc4da69a53d5ad443ea61"), looks := true }, kinds := [], alts := [], laidByText := true, laidKinds := [.data, .data, .data, .data, .sentinel, .sentinel, .pinned], laidTests := true, laidLooks := .later }
def FnExactParsePacketCardSaid : Prop := Claim7.holds Tryd.pinned (.plain (OpenSpec.ofChange fnExactParsePacketSpec)) fnExactParsePacketCard

/-- THE SECOND FORM's CARD OF 'laws.FnExactParsePacket'. -/
def fnExactParsePacketUptoCard : Claim7 := { stood := { row := fnExactParsePacketUptoRow, standIns := [], harness := (true, "173c982eb533ae2e62ef2e5c32c8107048079446a07fc4da69a53d5ad443ea61"), looks := true }, kinds := [], alts := [], laidByText := true, laidKinds := [.data, .data, .data, .data, .sentinel, .sentinel, .pinned], laidTests := true, laidLooks := .later }
def FnExactParsePacketUptoCardSaid : Prop := Claim7.holds Tryd.pinned (.plain (OpenSpec.upto fnExactParsePacketSpec)) fnExactParsePacketUptoCard
end Rows
end Go.Proofs.YtbikhpphdhffaaaDoor
