/- The laws' helpers on Glance: what they return. Condition: none. Printed by a program. -/
import Derived.Test.YtpbjcaadnbeplaaFlat0
namespace Go.Proofs.Ytpbjcaadnbeplaa
open Go.Vc

end Go.Proofs.Ytpbjcaadnbeplaa


