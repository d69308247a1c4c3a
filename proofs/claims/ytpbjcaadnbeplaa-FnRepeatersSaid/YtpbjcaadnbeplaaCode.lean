/- All code. Condition: none. -/
import Derived.Test.YtpbjcaadnbeplaaCode0
import Derived.Test.YtpbjcaadnbeplaaCode1
import Derived.Test.YtpbjcaadnbeplaaCode2
