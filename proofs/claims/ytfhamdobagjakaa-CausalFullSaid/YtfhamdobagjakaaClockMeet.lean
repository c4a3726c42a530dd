/- a part -/
import Derived.Test.YtfhamdobagjakaaClockMore
import Derived.RegionTactic
namespace Go.Proofs.Ytfhamdobagjakaa.ClockBase
open Go.RowKit Go.Lib Go.Proofs.YtfhamdobagjakaaW.PrintWords Go.Proofs.YtfhamdobagjakaaW.PrintLast Go.Proofs.YtfhamdobagjakaaW.PrintMore
set_option linter.unusedVariables false
set_option linter.unusedSimpArgs false
def lesser (x y:Int):Int:=if y<x then y else x
theorem min2_name (k k':IntKind) (x y:Int):Builtin.min2 (.int k x) (.int k' y)=pure (.int k (lesser x y)):=min2_int k k' x y
attribute [local go_sem] min2_name min_two
end Go.Proofs.Ytfhamdobagjakaa.ClockBase
