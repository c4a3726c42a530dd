/- a part -/
import Derived.Test.YtfhamdobagjakaaOpen
import Derived.Test.YtfhamdobagjakaaJoFull
namespace Go.Proofs.Ytfhamdobagjakaa.Open
open Go.RowKit Go.ChangeShapes Go.WideShapes Go.Deep Go.Proofs.YtfhamdobagjakaaW.PrintWords Go.Proofs.Ytfhamdobagjakaa.PJo Go.Proofs.Ytfhamdobagjakaa.Dsk
set_option linter.unusedVariables false
theorem jo_rec {H:Type} {enc:TypeId×Value->H} {W:World}:Opens enc Try.prog W 92 k92 (λx=>Wr.Bytes x.f1):=λfuel cs x h hz=>by
 obtain ⟨y,hy,hg⟩:=opens_iso (f:=λx:S92=>(x.f0,x.f1)) (λy=>⟨y.1,y.2⟩) (λx=>rfl)
  (opens_struct (d:=Kd.pair (Kd.int .i64) (Kd.slice 5 (Kd.int .u8))) Try.underlying92 (by kernel_rfl)
   (opensAt_cons (by decide) (by kernel_rfl) (by rfl) (by decide) (opens_int Try.underlying3) (opensAt_last (by decide) (by kernel_rfl) (opens_slice (d:=Kd.int .u8) (q:=5) Try.underlying38 (by kernel_rfl) (B:=1) (by kernel_rfl) (opens_int Try.underlying5))))) fuel cs x h hz
 exact ⟨y,hy,bytes_of hg.2.2⟩
theorem jo_act {H:Type} {enc:TypeId×Value->H} {W:World}:Opens enc Try.prog W 34 k34 (λx=>x.f1.length<=1000000000000000/\byL x.f1):=λfuel cs x h hz=>by
 obtain ⟨y,hy,hg⟩:=opens_iso (f:=λx:S34=>(x.f0,x.f1)) (λy=>⟨y.1,y.2⟩) (λx=>rfl)
  (opens_struct (d:=Kd.pair (Kd.int .i64) (Kd.slice 92 k92)) Try.underlying34 (by kernel_rfl)
   (opensAt_cons (by decide) (by kernel_rfl) (by rfl) (by decide) (opens_int Try.underlying3) (opensAt_last (by decide) (by kernel_rfl) (opens_slice (d:=k92) (q:=92) Try.underlying30 (by kernel_rfl) (B:=32) (by kernel_rfl) jo_rec)))) fuel cs x h hz
 refine ⟨y,hy,?_,λr hr=>hg.2.2 r hr⟩
 have h_:y.f1.length*32<=140737488351232:=hg.2.1
 omega
end Go.Proofs.Ytfhamdobagjakaa.Open
