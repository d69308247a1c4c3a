/-
  No cell of these rows narrows 'for every input' (looked for: loops, veiled, ifaces, maps, wideKeys, modest, calm, conditions, laid).
  DERIVED. THE GIVEN ROWS OF THIS SEAT. 11 by the template 'for every input the law returns true; each argument reads behind the call as it read before'; 0 by the template 'total and deterministic' (their statements: YtgfokmjnfaopaaaTotals.lean).
  GIVEN WITH THE SEED: the statements are not yours to turn. If you find one false, say at which input.
  Laid BY PROGRAM, IN A SANDBOX (cutbox-rows.mjs): the forced cells as the released guide's own fill.sh prints them over the translation 2434423990decb41… (all of the seat's roots in one cut). By AI agents, Wed Nov 11 2026. No macro, syntax, notation, axiom, sorry.
-/
import Derived.Test.YtgfokmjnfaopaaaChecked
import GoSem.Claim
import GoSem.ClaimJoined
import GoSem.ClaimMapViews
import Derived.JoinedTies
import Derived.KernelRfl
namespace Go.Proofs.Ytgfokmjnfaopaaa
/- THE CELL 'sum', in the pinned program and in every row, IS THE sha256 OF THE DUMP (.gsa) THAT YtgfokmjnfaopaaaProg.lean LOADS. Nothing in Lean hashes anything: it is a label: what it is worth is what the hold of that sum in a sandbox is worth. -/
noncomputable def Try.pinned : Pinned := { name := "ytgfokmjnfaopaaa", sum := "2434423990decb41cf5162774a57c870a6fd2e7a55e313065ef7b29f80c5d7ae", checked := Try.checked }
namespace Rows
def none {H : Type} : Left H := { results := [], args := [] }

/-- 'laws.FnExactIsRepeater': WHATEVER THE INPUT: true; the input reads as it did. -/
def fnExactIsRepeaterSpec : ChangeSpec := { name := "fnExactIsRepeater", fn := fun _ => fun
  | [d] => { results := [.lit (.bool true)], args := [d] }
  | _ => none }
def fnExactIsRepeaterRow : OpenClaim := { program := "ytgfokmjnfaopaaa", sum := "2434423990decb41cf5162774a57c870a6fd2e7a55e313065ef7b29f80c5d7ae", func := "loop.example/g00940/laws.FnExactIsRepeater", spec := "fnExactIsRepeater", apart := false }
def FnExactIsRepeaterSaid : Prop := fnExactIsRepeaterRow.holds Try.pinned (OpenSpec.ofChange fnExactIsRepeaterSpec)

/-- ITS FALSE NEIGHBOUR: 'it returns false'. Refute it at one input. -/
def fnExactIsRepeaterWrong : ChangeSpec := { name := "fnExactIsRepeater", fn := fun _ => fun
  | [d] => { results := [.lit (.bool false)], args := [d] }
  | _ => none }
def FnExactIsRepeaterWrongFalsely : Prop := fnExactIsRepeaterRow.holds Try.pinned (OpenSpec.ofChange fnExactIsRepeaterWrong)

/-- 'laws.FnExactPlainGlances': WHATEVER THE INPUT: true; the input reads as it did. -/
def fnExactPlainGlancesSpec : ChangeSpec := { name := "fnExactPlainGlances", fn := fun _ => fun
  | [d] => { results := [.lit (.bool true)], args := [d] }
  | _ => none }
def fnExactPlainGlancesRow : OpenClaim := { program := "ytgfokmjnfaopaaa", sum := "2434423990decb41cf5162774a57c870a6fd2e7a55e313065ef7b29f80c5d7ae", func := "loop.example/g00940/laws.FnExactPlainGlances", spec := "fnExactPlainGlances", apart := false }
def FnExactPlainGlancesSaid : Prop := fnExactPlainGlancesRow.holds Try.pinned (OpenSpec.ofChange fnExactPlainGlancesSpec)

/-- ITS FALSE NEIGHBOUR: 'it returns false'. Refute it at one input. -/
def fnExactPlainGlancesWrong : ChangeSpec := { name := "fnExactPlainGlances", fn := fun _ => fun
  | [d] => { results := [.lit (.bool false)], args := [d] }
  | _ => none }
def FnExactPlainGlancesWrongFalsely : Prop := fnExactPlainGlancesRow.holds Try.pinned (OpenSpec.ofChange fnExactPlainGlancesWrong)

/-- 'laws.FnExactWithMisreading': WHATEVER THE INPUT: true; the input reads as it did. -/
def fnExactWithMisreadingSpec : ChangeSpec := { name := "fnExactWithMisreading", fn := fun _ => fun
  | [d1, d2, d3] => { results := [.lit (.bool true)], args := [d1, d2, d3] }
  | _ => none }
def fnExactWithMisreadingRow : OpenClaim := { program := "ytgfokmjnfaopaaa", sum := "2434423990decb41cf5162774a57c870a6fd2e7a55e313065ef7b29f80c5d7ae", func := "loop.example/g00940/laws.FnExactWithMisreading", spec := "fnExactWithMisreading", unfollowed := true, recurses := true, apart := false }
def FnExactWithMisreadingSaid : Prop := fnExactWithMisreadingRow.holds Try.pinned (OpenSpec.ofChange fnExactWithMisreadingSpec)

/-- ITS FALSE NEIGHBOUR: 'it returns false'. Refute it at one input. -/
def fnExactWithMisreadingWrong : ChangeSpec := { name := "fnExactWithMisreading", fn := fun _ => fun
  | [d1, d2, d3] => { results := [.lit (.bool false)], args := [d1, d2, d3] }
  | _ => none }
def FnExactWithMisreadingWrongFalsely : Prop := fnExactWithMisreadingRow.holds Try.pinned (OpenSpec.ofChange fnExactWithMisreadingWrong)

/-- 'laws.FnExactWrongShows': WHATEVER THE INPUT: true; the input reads as it did. -/
def fnExactWrongShowsSpec : ChangeSpec := { name := "fnExactWrongShows", fn := fun _ => fun
  | [d] => { results := [.lit (.bool true)], args := [d] }
  | _ => none }
def fnExactWrongShowsRow : OpenClaim := { program := "ytgfokmjnfaopaaa", sum := "2434423990decb41cf5162774a57c870a6fd2e7a55e313065ef7b29f80c5d7ae", func := "loop.example/g00940/laws.FnExactWrongShows", spec := "fnExactWrongShows", unfollowed := true, recurses := true, apart := false }
def FnExactWrongShowsSaid : Prop := fnExactWrongShowsRow.holds Try.pinned (OpenSpec.ofChange fnExactWrongShowsSpec)

/-- ITS FALSE NEIGHBOUR: 'it returns false'. Refute it at one input. -/
def fnExactWrongShowsWrong : ChangeSpec := { name := "fnExactWrongShows", fn := fun _ => fun
  | [d] => { results := [.lit (.bool false)], args := [d] }
  | _ => none }
def FnExactWrongShowsWrongFalsely : Prop := fnExactWrongShowsRow.holds Try.pinned (OpenSpec.ofChange fnExactWrongShowsWrong)

/-- 'laws.FnExactShownAfter': WHATEVER THE INPUT: true; the input reads as it did. -/
def fnExactShownAfterSpec : ChangeSpec := { name := "fnExactShownAfter", fn := fun _ => fun
  | [d] => { results := [.lit (.bool true)], args := [d] }
  | _ => none }
def fnExactShownAfterRow : OpenClaim := { program := "ytgfokmjnfaopaaa", sum := "2434423990decb41cf5162774a57c870a6fd2e7a55e313065ef7b29f80c5d7ae", func := "loop.example/g00940/laws.FnExactShownAfter", spec := "fnExactShownAfter", unfollowed := true, recurses := true, apart := false }
def FnExactShownAfterSaid : Prop := fnExactShownAfterRow.holds Try.pinned (OpenSpec.ofChange fnExactShownAfterSpec)

/-- ITS FALSE NEIGHBOUR: 'it returns false'. Refute it at one input. -/
def fnExactShownAfterWrong : ChangeSpec := { name := "fnExactShownAfter", fn := fun _ => fun
  | [d] => { results := [.lit (.bool false)], args := [d] }
  | _ => none }
def FnExactShownAfterWrongFalsely : Prop := fnExactShownAfterRow.holds Try.pinned (OpenSpec.ofChange fnExactShownAfterWrong)

/-- 'laws.FnExactUsefulGlances': WHATEVER THE INPUT: true; the input reads as it did. -/
def fnExactUsefulGlancesSpec : ChangeSpec := { name := "fnExactUsefulGlances", fn := fun _ => fun
  | [d] => { results := [.lit (.bool true)], args := [d] }
  | _ => none }
def fnExactUsefulGlancesRow : OpenClaim := { program := "ytgfokmjnfaopaaa", sum := "2434423990decb41cf5162774a57c870a6fd2e7a55e313065ef7b29f80c5d7ae", func := "loop.example/g00940/laws.FnExactUsefulGlances", spec := "fnExactUsefulGlances", unfollowed := true, recurses := true, apart := false }
def FnExactUsefulGlancesSaid : Prop := fnExactUsefulGlancesRow.holds Try.pinned (OpenSpec.ofChange fnExactUsefulGlancesSpec)

/-- ITS FALSE NEIGHBOUR: 'it returns false'. Refute it at one input. -/
def fnExactUsefulGlancesWrong : ChangeSpec := { name := "fnExactUsefulGlances", fn := fun _ => fun
  | [d] => { results := [.lit (.bool false)], args := [d] }
  | _ => none }
def FnExactUsefulGlancesWrongFalsely : Prop := fnExactUsefulGlancesRow.holds Try.pinned (OpenSpec.ofChange fnExactUsefulGlancesWrong)

/-- 'laws.FnExactGlanceAt': WHATEVER THE INPUT: true; the input reads as it did. -/
def fnExactGlanceAtSpec : ChangeSpec := { name := "fnExactGlanceAt", fn := fun _ => fun
  | [d1, d2] => { results := [.lit (.bool true)], args := [d1, d2] }
  | _ => none }
def fnExactGlanceAtRow : OpenClaim := { program := "ytgfokmjnfaopaaa", sum := "2434423990decb41cf5162774a57c870a6fd2e7a55e313065ef7b29f80c5d7ae", func := "loop.example/g00940/laws.FnExactGlanceAt", spec := "fnExactGlanceAt", apart := false }
def FnExactGlanceAtSaid : Prop := fnExactGlanceAtRow.holds Try.pinned (OpenSpec.ofChange fnExactGlanceAtSpec)

/-- ITS FALSE NEIGHBOUR: 'it returns false'. Refute it at one input. -/
def fnExactGlanceAtWrong : ChangeSpec := { name := "fnExactGlanceAt", fn := fun _ => fun
  | [d1, d2] => { results := [.lit (.bool false)], args := [d1, d2] }
  | _ => none }
def FnExactGlanceAtWrongFalsely : Prop := fnExactGlanceAtRow.holds Try.pinned (OpenSpec.ofChange fnExactGlanceAtWrong)

/-- 'laws.FnExactPassedBy': WHATEVER THE INPUT: true; the input reads as it did. -/
def fnExactPassedBySpec : ChangeSpec := { name := "fnExactPassedBy", fn := fun _ => fun
  | [d] => { results := [.lit (.bool true)], args := [d] }
  | _ => none }
def fnExactPassedByRow : OpenClaim := { program := "ytgfokmjnfaopaaa", sum := "2434423990decb41cf5162774a57c870a6fd2e7a55e313065ef7b29f80c5d7ae", func := "loop.example/g00940/laws.FnExactPassedBy", spec := "fnExactPassedBy", unfollowed := true, recurses := true, apart := false }
def FnExactPassedBySaid : Prop := fnExactPassedByRow.holds Try.pinned (OpenSpec.ofChange fnExactPassedBySpec)

/-- ITS FALSE NEIGHBOUR: 'it returns false'. Refute it at one input. -/
def fnExactPassedByWrong : ChangeSpec := { name := "fnExactPassedBy", fn := fun _ => fun
  | [d] => { results := [.lit (.bool false)], args := [d] }
  | _ => none }
def FnExactPassedByWrongFalsely : Prop := fnExactPassedByRow.holds Try.pinned (OpenSpec.ofChange fnExactPassedByWrong)

/-- 'laws.FnExactRunGlances': WHATEVER THE INPUT: true; the input reads as it did. -/
def fnExactRunGlancesSpec : ChangeSpec := { name := "fnExactRunGlances", fn := fun _ => fun
  | [d1, d2] => { results := [.lit (.bool true)], args := [d1, d2] }
  | _ => none }
def fnExactRunGlancesRow : OpenClaim := { program := "ytgfokmjnfaopaaa", sum := "2434423990decb41cf5162774a57c870a6fd2e7a55e313065ef7b29f80c5d7ae", func := "loop.example/g00940/laws.FnExactRunGlances", spec := "fnExactRunGlances", unfollowed := true, recurses := true, apart := false }
def FnExactRunGlancesSaid : Prop := fnExactRunGlancesRow.holds Try.pinned (OpenSpec.ofChange fnExactRunGlancesSpec)

/-- ITS FALSE NEIGHBOUR: 'it returns false'. Refute it at one input. -/
def fnExactRunGlancesWrong : ChangeSpec := { name := "fnExactRunGlances", fn := fun _ => fun
  | [d1, d2] => { results := [.lit (.bool false)], args := [d1, d2] }
  | _ => none }
def FnExactRunGlancesWrongFalsely : Prop := fnExactRunGlancesRow.holds Try.pinned (OpenSpec.ofChange fnExactRunGlancesWrong)

/-- 'laws.FnRepeaters': WHATEVER THE INPUT: true; the input reads as it did. -/
def fnRepeatersSpec : ChangeSpec := { name := "fnRepeaters", fn := fun _ => fun
  | [d1, d2] => { results := [.lit (.bool true)], args := [d1, d2] }
  | _ => none }
def fnRepeatersRow : OpenClaim := { program := "ytgfokmjnfaopaaa", sum := "2434423990decb41cf5162774a57c870a6fd2e7a55e313065ef7b29f80c5d7ae", func := "loop.example/g00940/laws.FnRepeaters", spec := "fnRepeaters", unfollowed := true, recurses := true, apart := false }
def FnRepeatersSaid : Prop := fnRepeatersRow.holds Try.pinned (OpenSpec.ofChange fnRepeatersSpec)

/-- ITS FALSE NEIGHBOUR: 'it returns false'. Refute it at one input. -/
def fnRepeatersWrong : ChangeSpec := { name := "fnRepeaters", fn := fun _ => fun
  | [d1, d2] => { results := [.lit (.bool false)], args := [d1, d2] }
  | _ => none }
def FnRepeatersWrongFalsely : Prop := fnRepeatersRow.holds Try.pinned (OpenSpec.ofChange fnRepeatersWrong)

/-- 'laws.FnMisreadGlances': WHATEVER THE INPUT: true; the input reads as it did. -/
def fnMisreadGlancesSpec : ChangeSpec := { name := "fnMisreadGlances", fn := fun _ => fun
  | [d1, d2] => { results := [.lit (.bool true)], args := [d1, d2] }
  | _ => none }
def fnMisreadGlancesRow : OpenClaim := { program := "ytgfokmjnfaopaaa", sum := "2434423990decb41cf5162774a57c870a6fd2e7a55e313065ef7b29f80c5d7ae", func := "loop.example/g00940/laws.FnMisreadGlances", spec := "fnMisreadGlances", unfollowed := true, recurses := true, apart := false }
def FnMisreadGlancesSaid : Prop := fnMisreadGlancesRow.holds Try.pinned (OpenSpec.ofChange fnMisreadGlancesSpec)

/-- ITS FALSE NEIGHBOUR: 'it returns false'. Refute it at one input. -/
def fnMisreadGlancesWrong : ChangeSpec := { name := "fnMisreadGlances", fn := fun _ => fun
  | [d1, d2] => { results := [.lit (.bool false)], args := [d1, d2] }
  | _ => none }
def FnMisreadGlancesWrongFalsely : Prop := fnMisreadGlancesRow.holds Try.pinned (OpenSpec.ofChange fnMisreadGlancesWrong)

/- THE SECOND FORM. 'bulk': how many values and letters a reading holds, each counted each time it is reached (what is shared counts as often as it is met; a slice's spare places count too). A statement '..UptoSaid' is the law's where the arguments, and the package variables that the reading takes, are together of bulk at most 1048576: NARROWER than '..Said'. Prove '..Said' where nothing that the law and all that it calls make is longer than what came in: it says more and counts as full. Else prove '..UptoSaid'. A law counts once. -/
mutual
def uptoBulk {H : Type} : DataW H → Nat
  | .lit (.string bytes) => bytes.length + 1
  | .lit _ => 1
  | .nil => 1
  | .ptr d => uptoBulk d + 1
  | .slice elems spare => uptoBulkAll elems + uptoBulkAll spare + 1
  | .agg parts => uptoBulkAll parts + 1
  | .iface _ d => uptoBulk d + 1
  | .map entries => uptoBulkEntries entries + 1
  | .held _ => 1
def uptoBulkAll {H : Type} : List (DataW H) → Nat
  | [] => 0
  | d :: r => uptoBulk d + uptoBulkAll r
def uptoBulkEntries {H : Type} : List (Lit × DataW H) → Nat
  | [] => 0
  | x :: r => uptoBulkEntry x + uptoBulkEntries r
def uptoBulkEntry {H : Type} : Lit × DataW H → Nat
  | (.string bytes, d) => bytes.length + uptoBulk d + 1
  | (_, d) => uptoBulk d + 1
 end
def uptoSmall : (H : Type) → List (DataW H) → Bool := fun _ ds => decide (uptoBulkAll ds ≤ 1048576)
def OpenSpec.upto (s : _root_.Go.ChangeSpec) : _root_.Go.OpenSpec := { _root_.Go.OpenSpec.ofChange s with cond := some uptoSmall }

/-- 'laws.FnExactIsRepeater', WHERE WHAT IT READS IS OF BULK AT MOST 1048576: true; the input reads as it did. -/
def fnExactIsRepeaterUptoRow : OpenClaim := { program := "ytgfokmjnfaopaaa", sum := "2434423990decb41cf5162774a57c870a6fd2e7a55e313065ef7b29f80c5d7ae", func := "loop.example/g00940/laws.FnExactIsRepeater", spec := "fnExactIsRepeater", apart := false, narrowed := true }
def FnExactIsRepeaterUptoSaid : Prop := fnExactIsRepeaterUptoRow.holds Try.pinned (OpenSpec.upto fnExactIsRepeaterSpec)

/-- 'laws.FnExactPlainGlances', WHERE WHAT IT READS IS OF BULK AT MOST 1048576: true; the input reads as it did. -/
def fnExactPlainGlancesUptoRow : OpenClaim := { program := "ytgfokmjnfaopaaa", sum := "2434423990decb41cf5162774a57c870a6fd2e7a55e313065ef7b29f80c5d7ae", func := "loop.example/g00940/laws.FnExactPlainGlances", spec := "fnExactPlainGlances", apart := false, narrowed := true }
def FnExactPlainGlancesUptoSaid : Prop := fnExactPlainGlancesUptoRow.holds Try.pinned (OpenSpec.upto fnExactPlainGlancesSpec)

/-- 'laws.FnExactWithMisreading', WHERE WHAT IT READS IS OF BULK AT MOST 1048576: true; the input reads as it did. -/
def fnExactWithMisreadingUptoRow : OpenClaim := { program := "ytgfokmjnfaopaaa", sum := "2434423990decb41cf5162774a57c870a6fd2e7a55e313065ef7b29f80c5d7ae", func := "loop.example/g00940/laws.FnExactWithMisreading", spec := "fnExactWithMisreading", unfollowed := true, recurses := true, apart := false, narrowed := true }
def FnExactWithMisreadingUptoSaid : Prop := fnExactWithMisreadingUptoRow.holds Try.pinned (OpenSpec.upto fnExactWithMisreadingSpec)

/-- 'laws.FnExactWrongShows', WHERE WHAT IT READS IS OF BULK AT MOST 1048576: true; the input reads as it did. -/
def fnExactWrongShowsUptoRow : OpenClaim := { program := "ytgfokmjnfaopaaa", sum := "2434423990decb41cf5162774a57c870a6fd2e7a55e313065ef7b29f80c5d7ae", func := "loop.example/g00940/laws.FnExactWrongShows", spec := "fnExactWrongShows", unfollowed := true, recurses := true, apart := false, narrowed := true }
def FnExactWrongShowsUptoSaid : Prop := fnExactWrongShowsUptoRow.holds Try.pinned (OpenSpec.upto fnExactWrongShowsSpec)

/-- 'laws.FnExactShownAfter', WHERE WHAT IT READS IS OF BULK AT MOST 1048576: true; the input reads as it did. -/
def fnExactShownAfterUptoRow : OpenClaim := { program := "ytgfokmjnfaopaaa", sum := "2434423990decb41cf5162774a57c870a6fd2e7a55e313065ef7b29f80c5d7ae", func := "loop.example/g00940/laws.FnExactShownAfter", spec := "fnExactShownAfter", unfollowed := true, recurses := true, apart := false, narrowed := true }
def FnExactShownAfterUptoSaid : Prop := fnExactShownAfterUptoRow.holds Try.pinned (OpenSpec.upto fnExactShownAfterSpec)

/-- 'laws.FnExactUsefulGlances', WHERE WHAT IT READS IS OF BULK AT MOST 1048576: true; the input reads as it did. -/
def fnExactUsefulGlancesUptoRow : OpenClaim := { program := "ytgfokmjnfaopaaa", sum := "2434423990decb41cf5162774a57c870a6fd2e7a55e313065ef7b29f80c5d7ae", func := "loop.example/g00940/laws.FnExactUsefulGlances", spec := "fnExactUsefulGlances", unfollowed := true, recurses := true, apart := false, narrowed := true }
def FnExactUsefulGlancesUptoSaid : Prop := fnExactUsefulGlancesUptoRow.holds Try.pinned (OpenSpec.upto fnExactUsefulGlancesSpec)

/-- 'laws.FnExactGlanceAt', WHERE WHAT IT READS IS OF BULK AT MOST 1048576: true; the input reads as it did. -/
def fnExactGlanceAtUptoRow : OpenClaim := { program := "ytgfokmjnfaopaaa", sum := "2434423990decb41cf5162774a57c870a6fd2e7a55e313065ef7b29f80c5d7ae", func := "loop.example/g00940/laws.FnExactGlanceAt", spec := "fnExactGlanceAt", apart := false, narrowed := true }
def FnExactGlanceAtUptoSaid : Prop := fnExactGlanceAtUptoRow.holds Try.pinned (OpenSpec.upto fnExactGlanceAtSpec)

/-- 'laws.FnExactPassedBy', WHERE WHAT IT READS IS OF BULK AT MOST 1048576: true; the input reads as it did. -/
def fnExactPassedByUptoRow : OpenClaim := { program := "ytgfokmjnfaopaaa", sum := "2434423990decb41cf5162774a57c870a6fd2e7a55e313065ef7b29f80c5d7ae", func := "loop.example/g00940/laws.FnExactPassedBy", spec := "fnExactPassedBy", unfollowed := true, recurses := true, apart := false, narrowed := true }
def FnExactPassedByUptoSaid : Prop := fnExactPassedByUptoRow.holds Try.pinned (OpenSpec.upto fnExactPassedBySpec)

/-- 'laws.FnExactRunGlances', WHERE WHAT IT READS IS OF BULK AT MOST 1048576: true; the input reads as it did. -/
def fnExactRunGlancesUptoRow : OpenClaim := { program := "ytgfokmjnfaopaaa", sum := "2434423990decb41cf5162774a57c870a6fd2e7a55e313065ef7b29f80c5d7ae", func := "loop.example/g00940/laws.FnExactRunGlances", spec := "fnExactRunGlances", unfollowed := true, recurses := true, apart := false, narrowed := true }
def FnExactRunGlancesUptoSaid : Prop := fnExactRunGlancesUptoRow.holds Try.pinned (OpenSpec.upto fnExactRunGlancesSpec)

/-- 'laws.FnRepeaters', WHERE WHAT IT READS IS OF BULK AT MOST 1048576: true; the input reads as it did. -/
def fnRepeatersUptoRow : OpenClaim := { program := "ytgfokmjnfaopaaa", sum := "2434423990decb41cf5162774a57c870a6fd2e7a55e313065ef7b29f80c5d7ae", func := "loop.example/g00940/laws.FnRepeaters", spec := "fnRepeaters", unfollowed := true, recurses := true, apart := false, narrowed := true }
def FnRepeatersUptoSaid : Prop := fnRepeatersUptoRow.holds Try.pinned (OpenSpec.upto fnRepeatersSpec)

/-- 'laws.FnMisreadGlances', WHERE WHAT IT READS IS OF BULK AT MOST 1048576: true; the input reads as it did. -/
def fnMisreadGlancesUptoRow : OpenClaim := { program := "ytgfokmjnfaopaaa", sum := "2434423990decb41cf5162774a57c870a6fd2e7a55e313065ef7b29f80c5d7ae", func := "loop.example/g00940/laws.FnMisreadGlances", spec := "fnMisreadGlances", unfollowed := true, recurses := true, apart := false, narrowed := true }
def FnMisreadGlancesUptoSaid : Prop := fnMisreadGlancesUptoRow.holds Try.pinned (OpenSpec.upto fnMisreadGlancesSpec)

end Rows
end Go.Proofs.Ytgfokmjnfaopaaa
