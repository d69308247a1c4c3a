/- All code. Condition: none. -/
import Derived.Test.YtgfokmjnfaopaaaCode0
import Derived.Test.YtgfokmjnfaopaaaCode1
import Derived.Test.YtgfokmjnfaopaaaCode2
import Derived.Test.YtgfokmjnfaopaaaCode3
