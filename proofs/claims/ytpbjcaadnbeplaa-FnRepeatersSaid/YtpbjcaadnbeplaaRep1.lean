/- The laws' helpers on Repeater: what they return. Condition: none. Printed by a program. -/
import Derived.Test.YtpbjcaadnbeplaaRep0
namespace Go.Proofs.Ytpbjcaadnbeplaa
open Go.Vc

end Go.Proofs.Ytpbjcaadnbeplaa


