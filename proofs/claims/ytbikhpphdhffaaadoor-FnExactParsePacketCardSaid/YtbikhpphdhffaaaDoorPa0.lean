/- The laws' helper toPacket. Condition: none. Printed in part by a program. -/
import Derived.Test.YtbikhpphdhffaaaDoorStep2
import Derived.Test.YtbikhpphdhffaaaDoorSzI
import Derived.Test.YtbikhpphdhffaaaDoorCom2
import Derived.Test.YtbikhpphdhffaaaDoorLaws2
import Derived.Test.YtbikhpphdhffaaaDoorFind
namespace Go.Proofs.YtbikhpphdhffaaaDoor
open Go.Vc
set_option linter.all false

end Go.Proofs.YtbikhpphdhffaaaDoor

