/- The heavy facts of joinedFacts, each proved alone: together they want more memory than a build may take. -/
import Derived.Test.YthagdkmalchhgaaTypes
import Derived.WalkKit
namespace Go.Proofs.Ythagdkmalchhgaa
open Go.ChangeShapes Go.WideShapes Go.ChangeAt Go.RowKit Go.Vc
set_option maxRecDepth 100000
theorem joinMay : Try.prog.mayEnter = true := by kernel_rfl
theorem joinLift : Try.prog.liftsFinal = Rows.fnExactClearWindowsRow.lifted := by kernel_rfl
theorem joinMake : Try.prog.make = some Rows.fnExactClearWindowsRow.make := by kernel_rfl
end Go.Proofs.Ythagdkmalchhgaa
