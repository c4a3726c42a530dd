/- a part -/
import Derived.StillTail
import Derived.Orders
import Derived.Tactics
import Derived.Below
import Derived.Test.YtgocnchjpecafaaWLast
import Derived.Test.YtgocnchjpecafaaWWords
import Derived.Test.YtgocnchjpecafaaWNEv
import Derived.Test.YtgocnchjpecafaaWMore
import Derived.Test.YtgocnchjpecafaaWShare
import Derived.Test.YtgocnchjpecafaaWApart
import Derived.Test.YtgocnchjpecafaaWFoot
import Derived.Lib.ConvBytes
namespace Go.Proofs.Ytgocnchjpecafaa.Cards
open Go Go.RowKit Go.Proofs.YtgocnchjpecafaaW.PrintWords Go.Proofs.YtgocnchjpecafaaW.PrintLast
set_option linter.unusedVariables false
set_option linter.unusedSimpArgs false
section
variable {P : Program} {ops : Array Oper}
def fill (p : Nat → Bool) (vs : Nat → Value) : List Oper → Nat → Act → Act
 | [], _, a => a
 | o :: l, k, a => fill p vs l (k + 1) (if p k then a.put o.dst (vs k) else a)
def closedB (ops : Array Oper) (l1 : Array Bool) : Bool :=
 (List.range ops.size).all fun i => !l1.getD i false || match ops[i]? with | some o => o.after.all fun e => !Region.binds .any e || l1.getD e.on false | none => true
end
section
variable {P : Program}
abbrev Card := Value → World → Nat → Nat → Prop
def holds (φs : List Card) (k : Nat) : Card := φs[k]?.getD fun _ _ _ _ => True
end
end Go.Proofs.Ytgocnchjpecafaa.Cards
namespace Go.Proofs.Ytgocnchjpecafaa.Hand
open Go.RowKit Go.Proofs.YtgocnchjpecafaaW.PrintWords Go.Proofs.YtgocnchjpecafaaW.PrintLast Go.Proofs.YtgocnchjpecafaaW.PrintMore Go.Proofs.Ytgocnchjpecafaa.Cards
set_option linter.unusedVariables false
set_option linter.unusedSimpArgs false
end Go.Proofs.Ytgocnchjpecafaa.Hand
namespace Go.Proofs.Ytgocnchjpecafaa.Hand
open Go.RowKit Go.Proofs.YtgocnchjpecafaaW.PrintWords Go.Proofs.YtgocnchjpecafaaW.PrintLast Go.Proofs.YtgocnchjpecafaaW.PrintMore Go.Proofs.Ytgocnchjpecafaa.Cards
set_option linter.unusedVariables false
set_option linter.unusedSimpArgs false
end Go.Proofs.Ytgocnchjpecafaa.Hand
