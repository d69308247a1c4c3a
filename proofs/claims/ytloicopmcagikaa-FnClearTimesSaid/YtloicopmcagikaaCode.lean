/- All code. Condition: none. -/
import Derived.Test.YtloicopmcagikaaCode0
import Derived.Test.YtloicopmcagikaaCode1
import Derived.Test.YtloicopmcagikaaCode2
import Derived.Test.YtloicopmcagikaaCode3
import Derived.Test.YtloicopmcagikaaCode4
import Derived.Test.YtloicopmcagikaaCode5
