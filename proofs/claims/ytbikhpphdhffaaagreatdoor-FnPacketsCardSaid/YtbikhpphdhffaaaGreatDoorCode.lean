/- All code. Condition: none. -/
import Derived.Test.YtbikhpphdhffaaaGreatDoorCode0
import Derived.Test.YtbikhpphdhffaaaGreatDoorCode1
import Derived.Test.YtbikhpphdhffaaaGreatDoorCode2
import Derived.Test.YtbikhpphdhffaaaGreatDoorCode3
import Derived.Test.YtbikhpphdhffaaaGreatDoorCode4
