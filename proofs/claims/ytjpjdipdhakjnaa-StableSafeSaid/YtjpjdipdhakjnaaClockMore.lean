/- a part -/
import Derived.Test.YtjpjdipdhakjnaaClockFns
namespace Go.Proofs.Ytjpjdipdhakjnaa.ClockBase
open Go.RowKit Go.Lib Go.Proofs.YtjpjdipdhakjnaaW.PrintWords Go.Proofs.YtjpjdipdhakjnaaW.PrintLast Go.Proofs.YtjpjdipdhakjnaaW.PrintMore
set_option linter.unusedVariables false
set_option linter.unusedSimpArgs false
def withinS (a b:List Int):Bool:=(List.range 5).all λi=>decide ((ofL a).getD i 0<=(ofL b).getD i 0)
end Go.Proofs.Ytjpjdipdhakjnaa.ClockBase
