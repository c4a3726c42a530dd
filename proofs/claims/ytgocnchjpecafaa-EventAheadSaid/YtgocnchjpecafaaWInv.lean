/- a part -/
import Derived.Test.YtgocnchjpecafaaWTab
namespace Go.Proofs.YtgocnchjpecafaaW.PrintLast
def up (b : Nat → Bool) (i : Nat) : Nat → Bool := fun j => if j = i then true else b j
end Go.Proofs.YtgocnchjpecafaaW.PrintLast
