/- a part -/
import Derived.Test.YtgocnchjpecafaaPEvx0
import Derived.Test.YtgocnchjpecafaaPEvx1
import Derived.Test.YtgocnchjpecafaaPEvx10
import Derived.Test.YtgocnchjpecafaaPEvx21
namespace Go.Proofs.Ytgocnchjpecafaa.PEv
open Go.RowKit Go.Proofs.YtgocnchjpecafaaW.PrintWords Go.Proofs.YtgocnchjpecafaaW.PrintLast Go.Proofs.YtgocnchjpecafaaW.PrintMore
attribute [local go_sem] max2_int min2_int max_two min_two max_three min_three max_four min_four
set_option linter.unusedVariables false
set_option linter.unusedSimpArgs false
attribute [local go_sem high] eqA25
def hucksterref03_Sum.l0 : Nat → List Int → Int → Int → Option (Int)
 | 0, _, _, _ => none
 | k + 1, x0, x3, x4 => if x4 ≤ 5 then ((hucksterref03_Get.f k x0 x4).bind fun t705 => (hucksterref03_Sum.l0 k x0 (wrap64 (x3 + t705)) (wrap64 (x4 + 1)))) else (some x3)
def hucksterref03_Sum.f (k : Nat) (l0 : List Int) : Option (Int) := hucksterref03_Sum.l0 k l0 0 1
end Go.Proofs.Ytgocnchjpecafaa.PEv
