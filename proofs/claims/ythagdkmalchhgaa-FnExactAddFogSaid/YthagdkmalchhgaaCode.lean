/- All code. Condition: none. -/
import Derived.Test.YthagdkmalchhgaaCode0
import Derived.Test.YthagdkmalchhgaaCode1
import Derived.Test.YthagdkmalchhgaaCode2
import Derived.Test.YthagdkmalchhgaaCode3
import Derived.Test.YthagdkmalchhgaaCode4
import Derived.Test.YthagdkmalchhgaaCode5
