/- The structs of the arguments as data, and how they are read. Condition: none. Printed by a program. -/
import Derived.Test.YtloicopmcagikaaRows
import Derived.Test.YtloicopmcagikaaBase12
namespace Go.Proofs.Ytloicopmcagikaa
open Go.Vc Go.RowKit
set_option linter.all false
end Go.Proofs.Ytloicopmcagikaa
