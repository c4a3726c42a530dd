/- ClockOrders: any two clocks together, and how they are in order. -/
import Derived.Test.YtjpjdipdhakjnaaClockAid
import Derived.Test.YtjpjdipdhakjnaaPClockx4
namespace Go.Proofs.Ytjpjdipdhakjnaa.Pure
open Go.RowKit Go.Proofs.Ytjpjdipdhakjnaa.PClock Go.Proofs.YtjpjdipdhakjnaaW.PrintWords Go.Proofs.YtjpjdipdhakjnaaW.PrintLast Go.Proofs.Ytjpjdipdhakjnaa.ClockBase
set_option linter.unusedVariables false
set_option linter.unusedSimpArgs false

theorem ClockOrders : hucksterlaw03_ClockOrders.Pure := by
  intro a b hm0 hb0 hw0 hm1 hb1 hw1
  refine Ev.rounds (g := fun k => hucksterlaw03_ClockOrders.f k a b) ?_
  have ha : a.length ≤ 140737488355328 := by omega
  have hb : b.length ≤ 140737488355328 := by omega
  have haw : Ev (fun k => (hucksterlaw03_awake.f k).bind fun t => some t) true := Ev.bind awake_ev (Ev.now _)
  unfold hucksterlaw03_ClockOrders.f
  simp only [light_eq, Option.bind_some, clock_Join.f, clock_Meet.f, clock_Within.f, clock_Order.f]
  by_cases hl : a.length ≤ 50 ∧ b.length ≤ 50
  · refine ck_if (decide_eq_true hl) ?_
    refine Ev.bind (join_ev a b ha hb) (Ev.bind (same_yes _ (trim_five (good_join _))) (ck_if rfl ?_))
    refine Ev.bind (meet_ev a b ha hb) (Ev.bind (same_yes _ (trim_five (good_meet _ _))) (ck_if rfl ?_))
    refine Ev.bind (within_ev a b ha hb) (ck_if (by simp) ?_)
    exact Ev.bind (order_ev a b ha hb) (ck_if rfl haw)
  · exact ck_else (by simpa using hl) haw
end Go.Proofs.Ytjpjdipdhakjnaa.Pure
