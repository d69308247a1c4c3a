/- The structs of the arguments as data, and how they are read. Condition: none. Printed by a program. -/
import Derived.Test.YtgbaonaopkdlpaaRows
import Derived.Test.YtgbaonaopkdlpaaBase12
namespace Go.Proofs.Ytgbaonaopkdlpaa
open Go.Vc Go.RowKit
set_option linter.all false
end Go.Proofs.Ytgbaonaopkdlpaa
