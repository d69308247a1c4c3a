/- Lengths of results. Condition: none. Printed in part by a program. -/
import Derived.Test.YtpbjcaadnbeplaaRp6
namespace Go.Proofs.Ytpbjcaadnbeplaa
open Go.Vc
set_option linter.all false

theorem rg_len (r : RepP) (xs : List GlanceD) : (rgOut r xs).1.passed.length ≤ 80 := by
  unfold rgOut; split
  · rename_i c; exact c.2.2
  · simp
end Go.Proofs.Ytpbjcaadnbeplaa


