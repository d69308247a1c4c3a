/- All code. Condition: none. -/
import Derived.Test.YtbikhpphdhffaabDoorCode0
import Derived.Test.YtbikhpphdhffaabDoorCode1
