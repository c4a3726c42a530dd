/- a part -/
import Derived.Test.YtpahdlgpiecdkaaOpen
import Derived.Test.YtpahdlgpiecdkaaPDkx0
namespace Go.Proofs.Ytpahdlgpiecdkaa.Open
open Go.RowKit Go.ChangeShapes Go.WideShapes Go.Deep Go.Proofs.YtpahdlgpiecdkaaW.PrintWords Go.Proofs.Ytpahdlgpiecdkaa.PDk
set_option linter.unusedVariables false
theorem o49 {H:Type} {enc:TypeId×Value->H} {W:World}:Opens enc Try.prog W 49 k49 (λx=>x.f2.length<=140737488355328):=λfuel cs x h hz=>by
 obtain ⟨y,hy,hg⟩:=opens_iso (f:=λx:S49=>(x.f0,x.f1,x.f2,x.f3,x.f4)) (λy=>⟨y.1,y.2.1,y.2.2.1,y.2.2.2.1,y.2.2.2.2⟩) (λx=>rfl)
  (opens_struct (d:=Kd.pair (Kd.int .i64) (Kd.pair (Kd.int .i64) (Kd.pair (Kd.slice 5 (Kd.int .u8)) (Kd.pair (Kd.int .i64) (Kd.slice 3 (Kd.int .i64)))))) Try.underlying49 (by kernel_rfl)
   (opensAt_cons (by decide) (by kernel_rfl) (by rfl) (by decide) (opens_int Try.underlying3) (opensAt_cons (by decide) (by kernel_rfl) (by rfl) (by decide) (opens_int Try.underlying3) (opensAt_cons (by decide) (by kernel_rfl) (by rfl) (by decide) (opens_slice (d:=Kd.int .u8) (q:=5) Try.underlying23 (by kernel_rfl) (B:=1) (by kernel_rfl) (opens_int Try.underlying5)) (opensAt_cons (by decide) (by kernel_rfl) (by rfl) (by decide) (opens_int Try.underlying3) (opensAt_last (by decide) (by kernel_rfl) (opens_slice (d:=Kd.int .i64) (q:=3) Try.underlying47 (by kernel_rfl) (B:=8) (by kernel_rfl) (opens_int Try.underlying3))))))) ) fuel cs x h hz
 refine ⟨y,hy,?_⟩
 have h_:y.f2.length*1<=140737488351232:=hg.2.2.1.1
 omega
end Go.Proofs.Ytpahdlgpiecdkaa.Open
