/- a part -/
import Derived.Test.YtgocnchjpecafaaPEvx0
import Derived.Test.YtgocnchjpecafaaPEvx10
namespace Go.Proofs.Ytgocnchjpecafaa.PEv
open Go.RowKit Go.Proofs.YtgocnchjpecafaaW.PrintWords Go.Proofs.YtgocnchjpecafaaW.PrintLast Go.Proofs.YtgocnchjpecafaaW.PrintMore
attribute [local go_sem] max2_int min2_int max_two min_two max_three min_three max_four min_four
set_option linter.unusedVariables false
set_option linter.unusedSimpArgs false
def hucksterref03_Set.l0 : Nat → List Int → Int → Int → List Int → Int → Option (List Int)
 | 0, _, _, _, _, _ => none
 | k + 1, x0, x1, x2, x7, x8 => if x8 ≤ 5 then (if x8 = x1 then (if x7.length < 17592186044416 then (hucksterref03_Set.l0 k x0 x1 x2 (x7 ++ [x2]) (wrap64 (x8 + 1))) else (none)) else ((hucksterref03_Get.f k x0 x8).bind fun t765 => (if x7.length < 17592186044416 then (hucksterref03_Set.l0 k x0 x1 x2 (x7 ++ [t765]) (wrap64 (x8 + 1))) else (none)))) else ((hucksterref03_Plain.f k x7).bind fun t769 => (some t769))
def hucksterref03_Set.f (k : Nat) (l0 : List Int) (a1 : Int) (a2 : Int) : Option (List Int) := hucksterref03_Set.l0 k l0 a1 a2 (([] : List Int)) 1
end Go.Proofs.Ytgocnchjpecafaa.PEv
