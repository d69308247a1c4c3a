/- The structs of the arguments as data, and how they are read. Condition: none. Printed by a program. -/
import Derived.Test.YtpbjcaadnbeplaaRows
import Derived.Test.YtpbjcaadnbeplaaBase12
namespace Go.Proofs.Ytpbjcaadnbeplaa
open Go.Vc Go.RowKit
set_option linter.all false
end Go.Proofs.Ytpbjcaadnbeplaa
