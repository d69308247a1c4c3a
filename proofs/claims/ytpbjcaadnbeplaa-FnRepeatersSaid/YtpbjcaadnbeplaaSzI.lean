/- The law's helper szIntS. Condition: none. -/
import Derived.Test.YtpbjcaadnbeplaaLaws1
namespace Go.Proofs.Ytpbjcaadnbeplaa
open Go.Vc
end Go.Proofs.Ytpbjcaadnbeplaa


