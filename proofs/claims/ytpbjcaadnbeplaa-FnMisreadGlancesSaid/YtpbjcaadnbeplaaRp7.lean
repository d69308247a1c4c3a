/- Lengths of results. Condition: none. Printed in part by a program. -/
import Derived.Test.YtpbjcaadnbeplaaRp6
namespace Go.Proofs.Ytpbjcaadnbeplaa
open Go.Vc
set_option linter.all false

theorem sa_len (xs : List GlanceD) : (saOut xs).1.length ≤ 80 := by
  unfold saOut; split
  · rename_i c; simp only [shown_len]; exact c.1
  · simp
theorem ug_len (xs : List GlanceD) : (ugOut xs).1.length ≤ 80 := by
  unfold ugOut; split
  · rename_i c; exact Nat.le_trans (useful_len _ _) c.1
  · simp
theorem rg_len (r : RepP) (xs : List GlanceD) : (rgOut r xs).1.passed.length ≤ 80 := by
  unfold rgOut; split
  · rename_i c; exact c.2.2
  · simp
theorem pb_len (xs : List GlanceD) : (pbOut xs).1.length ≤ 80 := rg_len rz xs

end Go.Proofs.Ytpbjcaadnbeplaa

