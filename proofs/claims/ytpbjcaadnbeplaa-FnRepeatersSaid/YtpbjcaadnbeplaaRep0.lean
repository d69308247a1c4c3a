/- The laws' helper toRepeater. Condition: none. Printed in part by a program. -/
import Derived.Test.YtpbjcaadnbeplaaStep2
import Derived.Test.YtpbjcaadnbeplaaSzI
import Derived.Test.YtpbjcaadnbeplaaRp1
namespace Go.Proofs.Ytpbjcaadnbeplaa
open Go.Vc
end Go.Proofs.Ytpbjcaadnbeplaa


