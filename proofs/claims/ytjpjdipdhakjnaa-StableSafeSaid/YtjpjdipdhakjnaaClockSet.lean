/- a part -/
import Derived.Test.YtjpjdipdhakjnaaClockMeet
namespace Go.Proofs.Ytjpjdipdhakjnaa.ClockBase
open Go.RowKit Go.Lib Go.Proofs.YtjpjdipdhakjnaaW.PrintWords Go.Proofs.YtjpjdipdhakjnaaW.PrintLast Go.Proofs.YtjpjdipdhakjnaaW.PrintMore
set_option linter.unusedVariables false
set_option linter.unusedSimpArgs false
def setOk (rep n:Int):Bool:=decide (1<=rep/\rep<=5) && decide (0<=n/\n<=1048576)
def setS (l:List Int) (rep n:Int):List Int:=trim ((ofL l).set (rep - 1).toNat n)
end Go.Proofs.Ytjpjdipdhakjnaa.ClockBase
