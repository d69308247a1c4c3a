/- The structs of the arguments as data, and how they are read. Condition: none. Printed by a program. -/
import Derived.Test.YtbikhpphdhffaaaGreatDoorRows
import Derived.Test.YtbikhpphdhffaaaGreatDoorBase12
namespace Go.Proofs.YtbikhpphdhffaaaGreatDoor
open Go.Vc Go.RowKit
set_option linter.all false
end Go.Proofs.YtbikhpphdhffaaaGreatDoor
