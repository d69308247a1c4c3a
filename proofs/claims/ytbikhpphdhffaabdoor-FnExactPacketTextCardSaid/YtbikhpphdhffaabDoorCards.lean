/-
  DERIVED. GIVEN WITH THE SEED: THE CARDS: each row of YtbikhpphdhffaabDoorRows.lean that lists a variable, with what it lists TIED to the program's text (the seventh form; the later family's looks); each row that meets fmt, with fmt's text TOLD by the authors' own Lean function (tested against real Go, not proved from fmt's source: count such statements apart). THE CARD IS WHAT COUNTS. Prove the row's statement (the work); the ties are given (YtbikhpphdhffaabDoorTie.lean); close each card by the builder's one call (the guide's Derived/Test/ToyasCard.lean, 'card_holds'). Laid BY PROGRAM, IN A SANDBOX (cutbox-door.mjs). By AI agents, Wed Nov 11 2026. No macro, syntax, notation, axiom, sorry.
-/
import Derived.Test.YtbikhpphdhffaabDoorRows
import GoSem.ClaimSeven
namespace Go.Proofs.YtbikhpphdhffaabDoor
namespace Rows

/-- THE TIED CARD OF 'laws.FnExactPacketText'. -/
def fnExactPacketTextCard : Claim7 := { stood := { row := fnExactPacketTextRow, standIns := [], harness := (true, "ccdfe5026e942bf33ce09c2e36f19073330d2488bb9f188663a226dac0d9f544"), looks := false }, kinds := [], alts := [], laidByText := true, laidKinds := [.data, .data, .data], laidTests := true, laidLooks := .later }
def FnExactPacketTextCardSaid : Prop := Claim7.holds Tryd.pinned (.plain (OpenSpec.ofChange fnExactPacketTextSpec)) fnExactPacketTextCard

/-- THE SECOND FORM's CARD OF 'laws.FnExactPacketText'. -/
def fnExactPacketTextUptoCard : Claim7 := { stood := { row := fnExactPacketTextUptoRow, standIns := [], harness := (true, "ccdfe5026e942bf33ce09c2e36f19073330d2488bb9f188663a226dac0d9f544"), looks := false }, kinds := [], alts := [], laidByText := true, laidKinds := [.data, .data, .data], laidTests := true, laidLooks := .later }
def FnExactPacketTextUptoCardSaid : Prop := Claim7.holds Tryd.pinned (.plain (OpenSpec.upto fnExactPacketTextSpec)) fnExactPacketTextUptoCard
end Rows
end Go.Proofs.YtbikhpphdhffaabDoor
