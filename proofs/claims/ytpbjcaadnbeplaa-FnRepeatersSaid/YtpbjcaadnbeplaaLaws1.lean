/- The laws' helpers on slices of ints: toIntS copies, eqIntS compares. Condition: none. -/
import Derived.Test.YtpbjcaadnbeplaaCode
import Derived.Test.YtpbjcaadnbeplaaLib1
namespace Go.Proofs.Ytpbjcaadnbeplaa
open Go.Vc

abbrev Cn (f : Nat) (args : List Value) (h : Heap) (R : Value → Heap → Prop) : Prop := CallsH Try.prog f args h R

end Go.Proofs.Ytpbjcaadnbeplaa


