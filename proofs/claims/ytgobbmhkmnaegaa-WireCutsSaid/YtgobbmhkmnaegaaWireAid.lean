/- The statements on numbers, texts and packs: what they share. -/
import Derived.OpenShut
import Derived.Test.YtgobbmhkmnaegaaWireRec
import Derived.Test.YtgobbmhkmnaegaaWireRef
import Derived.Test.YtgobbmhkmnaegaaPWirex2
namespace Go.Proofs.Ytgobbmhkmnaegaa.PWire
open Go.RowKit Go.Proofs.YtgobbmhkmnaegaaW.PrintWords Go.Proofs.YtgobbmhkmnaegaaW.PrintLast Go.Proofs.Ytgobbmhkmnaegaa.Wr
set_option linter.unusedVariables false
set_option linter.unusedSimpArgs false

theorem bytes_of {l : List Int} (h : ∀ x ∈ l, (Lit.int .u8 x).wf = true) : Wr.Bytes l := fun x hx => by
  have := bounds_u8 (h x hx)
  omega
theorem awake_ev : Ev (fun k => hucksterlaw02_awake.f k) true := by
  unfold hucksterlaw02_awake.f
  refine Ev.bind (record_ev 3 [] (by omega) (by intro x hx; cases hx) (by simp)) ?_
  refine Ev.bind (num_ev 258 (by omega)) ?_
  rw [num_258]
  refine Ev.bind (eq_ev [2, 1, 2] [2, 1, 2] (by simp)) ?_
  refine wl_if (decide_eq_true rfl) ?_
  refine Ev.bind (num_ev 0 (by omega)) ?_
  rw [num_0]
  refine Ev.bind (eq_ev [0] [0] (by simp)) ?_
  refine wl_if (decide_eq_true rfl) ?_
  refine wl_if rfl ?_
  have e : (((record 3 []).length : Int) == 6) = true := by
    have : (record 3 []).length = 6 := by
      unfold record recB text
      rw [show ([] : List Int).length = 0 from rfl, num_0]
      rfl
    rw [this]
    rfl
  rw [e]
  exact Ev.now _
end Go.Proofs.Ytgobbmhkmnaegaa.PWire
