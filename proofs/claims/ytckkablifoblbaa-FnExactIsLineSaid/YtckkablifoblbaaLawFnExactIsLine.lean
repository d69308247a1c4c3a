/- The law FnExactIsLine: its text returns true. Condition: none. -/
import Derived.Test.YtckkablifoblbaaLn1
import Derived.Test.YtckkablifoblbaaTypes
namespace Go.Proofs.Ytckkablifoblbaa.finFnExactIsLine
open Go.Vc
theorem law_ok (h : Heap) (x0 : LineD) (w0 : LineD.good h x0) : Cn f_laws_FnExactIsLine [x0.val] h fun v h' => v = .bool true ∧ Ext h h' :=
  fnExactIsLine_ok x0.towers x0.tries h
end Go.Proofs.Ytckkablifoblbaa.finFnExactIsLine
