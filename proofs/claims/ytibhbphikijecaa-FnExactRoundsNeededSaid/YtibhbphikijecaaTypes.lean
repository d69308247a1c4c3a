/- The structs of the arguments as data, and how they are read. Condition: none. Printed by a program. -/
import Derived.Test.YtibhbphikijecaaRows
import Derived.Test.YtibhbphikijecaaBase12
namespace Go.Proofs.Ytibhbphikijecaa
open Go.Vc Go.RowKit
end Go.Proofs.Ytibhbphikijecaa
