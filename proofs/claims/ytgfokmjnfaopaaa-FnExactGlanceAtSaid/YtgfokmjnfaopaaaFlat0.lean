/- What the helpers of the laws need. Condition: none. -/
import Derived.Test.YtgfokmjnfaopaaaLaws1
import Derived.Test.YtgfokmjnfaopaaaDeep1
import Derived.Test.YtgfokmjnfaopaaaTypes
