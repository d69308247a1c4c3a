/- All code. Condition: none. -/
import Derived.Test.YtbikhpphdhffaaaDoorCode0
import Derived.Test.YtbikhpphdhffaaaDoorCode1
import Derived.Test.YtbikhpphdhffaaaDoorCode2
