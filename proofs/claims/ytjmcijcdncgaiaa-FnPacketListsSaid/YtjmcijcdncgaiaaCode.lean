/- All code. Condition: none. -/
import Derived.Test.YtjmcijcdncgaiaaCode0
import Derived.Test.YtjmcijcdncgaiaaCode1
import Derived.Test.YtjmcijcdncgaiaaCode2
import Derived.Test.YtjmcijcdncgaiaaCode3
import Derived.Test.YtjmcijcdncgaiaaCode4
import Derived.Test.YtjmcijcdncgaiaaCode5
