/- The structs of the arguments as data, and how they are read. Condition: none. Printed by a program. -/
import Derived.Test.YtbikhpphdhffaaaDoorRows
import Derived.Test.YtbikhpphdhffaaaDoorBase12
namespace Go.Proofs.YtbikhpphdhffaaaDoor
open Go.Vc Go.RowKit
set_option linter.all false
end Go.Proofs.YtbikhpphdhffaaaDoor
