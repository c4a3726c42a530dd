import Derived.Test.YtgocnchjpecafaaProg
import Derived.Test.YtgocnchjpecafaaHand
import Derived.Test.YtgocnchjpecafaaWLast
import Derived.WideKeyRuns
import Derived.WideMake
import Derived.Maps.Own
/- a part -/
namespace Go.Proofs.Ytgocnchjpecafaa.DotMap
open Go Go.RowKit Go.Proofs.YtgocnchjpecafaaW.PrintWords Go.Maps Go.ChangeMaps
set_option linter.unusedVariables false
set_option linter.unusedSimpArgs false
def dotV (x:Int×Int):Value:=.agg #[.int .i64 x.1,.int .i64 x.2]
structure Ent where
 k:Int×Int
 v:Value
 b:Nat
def Ent.raw (e:Ent):MapEntry:={ key:=dotV e.k,val:=e.v,born:=e.b }
def find (x:Int×Int):List Ent->Nat->Option (Nat×Value)
 | [],_=>none
 | e :: l,i=>if x=e.k then some (i,e.v) else find x l (i+1)
end Go.Proofs.Ytgocnchjpecafaa.DotMap
