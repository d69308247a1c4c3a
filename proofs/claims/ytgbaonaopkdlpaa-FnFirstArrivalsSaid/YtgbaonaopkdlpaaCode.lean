/- All code. Condition: none. -/
import Derived.Test.YtgbaonaopkdlpaaCode0
import Derived.Test.YtgbaonaopkdlpaaCode1
import Derived.Test.YtgbaonaopkdlpaaCode2
import Derived.Test.YtgbaonaopkdlpaaCode3
import Derived.Test.YtgbaonaopkdlpaaCode4
