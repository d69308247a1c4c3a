/- What repeaters show along glances, and which glances change them. Condition: none. Printed in part by a program. -/
import Derived.Test.YtpbjcaadnbeplaaRp4
namespace Go.Proofs.Ytpbjcaadnbeplaa
open Go.Vc
set_option linter.all false
def RepP.same (a b : RepP) : Prop := a.phase = b.phase ∧ a.holds = b.holds ∧ a.again = b.again ∧ a.shown = b.shown ∧ a.passed = b.passed
instance (a b : RepP) : Decidable (a.same b) := inferInstanceAs (Decidable (_ ∧ _))
end Go.Proofs.Ytpbjcaadnbeplaa


