/- The laws' helpers on slices of ints: markIntS writes k, k + 1, .., heldIntS looks whether they are there. Condition: none. -/
import Derived.Test.YtpbjcaadnbeplaaLaws1
namespace Go.Proofs.Ytpbjcaadnbeplaa
open Go.Vc

end Go.Proofs.Ytpbjcaadnbeplaa


