/- Clocks: what the statements share: they are awake; which clocks are light. -/
import Derived.Test.YtjpjdipdhakjnaaClockRef
import Derived.Test.YtjpjdipdhakjnaaPReadx1
namespace Go.Proofs.Ytjpjdipdhakjnaa.PRead
open Go.RowKit Go.Proofs.YtjpjdipdhakjnaaW.PrintWords Go.Proofs.YtjpjdipdhakjnaaW.PrintLast Go.Proofs.Ytjpjdipdhakjnaa.ClockBase
set_option linter.unusedVariables false
set_option linter.unusedSimpArgs false

theorem awake_ev : Ev (fun k => hucksterlaw03_awake.f k) true := by
  unfold hucksterlaw03_awake.f clock_Join.f clock_Within.f
  simp only [Option.bind_some]
  have e1 : trim (joinS [[1, 2], [0, 5, 1]]) = [1, 5, 1] := by decide +kernel
  have e2 : withinS [1] [1, 2] = true := by decide +kernel
  rw [e1, e2]
  exact Ev.bind (same_yes _ (by decide)) (ck_if rfl (Ev.now _))
theorem light_eq (a b : List Int) : hucksterlaw03_light.f a b = some (decide (a.length ≤ 50 ∧ b.length ≤ 50)) := by
  unfold hucksterlaw03_light.f
  by_cases h : (a.length : Int) ≤ 50
  · rw [if_pos h]
    congr 1
    refine decide_eq_decide.2 ?_
    omega
  · rw [if_neg h, decide_eq_false (by omega)]
end Go.Proofs.Ytjpjdipdhakjnaa.PRead
