/- a part -/
import Derived.Test.YtgocnchjpecafaaEvPure
import Derived.Test.YtgocnchjpecafaaPEvx27
import Derived.Test.YtgocnchjpecafaaPEvx29
namespace Go.Proofs.Ytgocnchjpecafaa.PEv
open Go.RowKit Go.Proofs.YtgocnchjpecafaaW.PrintWords Go.Proofs.YtgocnchjpecafaaW.PrintLast Go.Proofs.Ytgocnchjpecafaa.ClockBase Go.Proofs.Ytgocnchjpecafaa.Wr
set_option linter.unusedVariables false
set_option linter.unusedSimpArgs false
end Go.Proofs.Ytgocnchjpecafaa.PEv
namespace Go.Proofs.Ytgocnchjpecafaa.PEv
open Go.RowKit Go.Proofs.YtgocnchjpecafaaW.PrintWords Go.Proofs.YtgocnchjpecafaaW.PrintLast Go.Proofs.Ytgocnchjpecafaa.ClockBase Go.Proofs.Ytgocnchjpecafaa.Wr
set_option linter.unusedVariables false
set_option linter.unusedSimpArgs false
end Go.Proofs.Ytgocnchjpecafaa.PEv
namespace Go.Proofs.Ytgocnchjpecafaa.PEv
open Go.RowKit Go.Proofs.YtgocnchjpecafaaW.PrintWords Go.Proofs.YtgocnchjpecafaaW.PrintLast Go.Proofs.Ytgocnchjpecafaa.ClockBase Go.Proofs.Ytgocnchjpecafaa.Wr
set_option linter.unusedVariables false
set_option linter.unusedSimpArgs false
end Go.Proofs.Ytgocnchjpecafaa.PEv
namespace Go.Proofs.Ytgocnchjpecafaa.PEv
open Go.RowKit Go.Proofs.YtgocnchjpecafaaW.PrintWords Go.Proofs.YtgocnchjpecafaaW.PrintLast Go.Proofs.Ytgocnchjpecafaa.ClockBase Go.Proofs.Ytgocnchjpecafaa.Wr
set_option linter.unusedVariables false
set_option linter.unusedSimpArgs false
def OkE (x:S30):Prop:=OkEv x.f0.f0 x.f0.f1 x.f1 x.f2
instance (x:S30):Decidable (OkE x):=by unfold OkE;infer_instance
def OkL (c:List Int) (es:List S30):Prop:=okC c=true/\(trim (ofL c)).length=c.length/\es.length<=16/\∀ x ∈ es,OkE x
instance (c:List Int) (es:List S30):Decidable (OkL c es):=by unfold OkL;infer_instance
end Go.Proofs.Ytgocnchjpecafaa.PEv
namespace Go.Proofs.Ytgocnchjpecafaa.PEv
open Go.RowKit Go.Proofs.YtgocnchjpecafaaW.PrintWords Go.Proofs.YtgocnchjpecafaaW.PrintLast Go.Proofs.Ytgocnchjpecafaa.ClockBase Go.Proofs.Ytgocnchjpecafaa.Wr
set_option linter.unusedVariables false
set_option linter.unusedSimpArgs false
theorem awake28_ev:Ev (λk=>w28_awake.f k) true:=by
 have h:∃ k,w28_awake.f k=some true:=⟨40,by decide +kernel⟩
 obtain ⟨n,hn⟩:=h
 refine ⟨n,λk hk=>?_⟩
 induction hk with
 | refl=>exact hn
 | step _ ih=>exact w28_awake.mono _ _ ih
theorem rd30_at {l:List S30} {i:Nat} (h:i<l.length):rd_T30 l (i:Int)=l[i]:=by
 unfold rd_T30
 rw [Int.toNat_natCast,List.getD_eq_getElem?_getD,List.getElem?_eq_getElem h]
 rfl
theorem OkE_len {x:S30} (h:OkE x):x.f1.length<=140737488355328/\x.f2.length<=140737488355328:=by
 have h1:=(okC_iff.mp h.2.2.2.2.1).1
 have h2:=h.2.2.2.2.2.2.2.2.1
 omega
end Go.Proofs.Ytgocnchjpecafaa.PEv
