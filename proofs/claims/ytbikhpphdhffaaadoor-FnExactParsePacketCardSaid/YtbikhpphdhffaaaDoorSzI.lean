/- The law's helper szIntS. Condition: none. -/
import Derived.Test.YtbikhpphdhffaaaDoorLaws1
namespace Go.Proofs.YtbikhpphdhffaaaDoor
open Go.Vc
end Go.Proofs.YtbikhpphdhffaaaDoor

