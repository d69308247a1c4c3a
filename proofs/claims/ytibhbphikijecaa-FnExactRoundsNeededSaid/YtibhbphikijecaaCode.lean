/- All code. Condition: none. -/
import Derived.Test.YtibhbphikijecaaCode0
