/- a part -/
import Derived.Test.YtfhamdobagjakaaClockSet
namespace Go.Proofs.Ytfhamdobagjakaa.ClockBase
open Go.RowKit Go.Lib Go.Proofs.YtfhamdobagjakaaW.PrintWords Go.Proofs.YtfhamdobagjakaaW.PrintLast Go.Proofs.YtfhamdobagjakaaW.PrintMore
set_option linter.unusedVariables false
set_option linter.unusedSimpArgs false
def greater (x y:Int):Int:=if x<y then y else x
theorem max2_name (k k':IntKind) (x y:Int):Builtin.max2 (.int k x) (.int k' y)=pure (.int k (greater x y)):=max2_int k k' x y
attribute [local go_sem] max2_name max_two
end Go.Proofs.Ytfhamdobagjakaa.ClockBase
