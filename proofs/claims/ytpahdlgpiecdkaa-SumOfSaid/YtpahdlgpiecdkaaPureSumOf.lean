/- SumOf: the sum of any bytes, and of any behind others, is the reference's. -/
import Derived.Test.YtpahdlgpiecdkaaSumAid
import Derived.Test.YtpahdlgpiecdkaaPSumx1
namespace Go.Proofs.Ytpahdlgpiecdkaa.Pure
open Go.RowKit Go.Proofs.Ytpahdlgpiecdkaa.PSum Go.Proofs.YtpahdlgpiecdkaaW.PrintWords Go.Proofs.YtpahdlgpiecdkaaW.PrintLast Go.Proofs.Ytpahdlgpiecdkaa.Crc
set_option linter.unusedVariables false

theorem SumOf : hucksterlaw01_SumOf.Pure := by
  intro a0 l1 h0 hm hr hw
  refine Ev.rounds (g := fun k => hucksterlaw01_SumOf.f k a0 l1) ?_
  unfold hucksterlaw01_SumOf.f
  have hb := bytes_of hw
  have ha := u32_of h0
  by_cases hl : (l1.length : Int) > 1500
  · exact ev_if hl (Ev.bind awake_ev (Ev.now _))
  · refine ev_else hl ?_
    refine Ev.bind (of_one l1 hb (by omega)) ?_
    refine Ev.bind (refOf_ev l1 hb (by omega)) ?_
    refine ev_if rfl ?_
    rw [← rg_of a0 ha.1 ha.2]
    refine Ev.bind (on_ev _ l1 hb (by omega)) ?_
    refine Ev.bind (refOn_ev _ l1 hb (by omega)) ?_
    exact ev_if rfl (Ev.bind awake_ev (Ev.now _))
end Go.Proofs.Ytpahdlgpiecdkaa.Pure
