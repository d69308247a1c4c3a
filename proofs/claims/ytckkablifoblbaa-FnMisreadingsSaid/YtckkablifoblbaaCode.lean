/- All code. Condition: none. -/
import Derived.Test.YtckkablifoblbaaCode0
import Derived.Test.YtckkablifoblbaaCode1
import Derived.Test.YtckkablifoblbaaCode2
import Derived.Test.YtckkablifoblbaaCode3
