/- WireRecords: which records there may be, their bytes, and which record any bytes begin with. -/
import Derived.Test.YtgobbmhkmnaegaaWireGetRec
import Derived.Test.YtgobbmhkmnaegaaPWirex14
namespace Go.Proofs.Ytgobbmhkmnaegaa.Pure
open Go.RowKit Go.Proofs.Ytgobbmhkmnaegaa.PWire Go.Proofs.YtgobbmhkmnaegaaW.PrintWords Go.Proofs.YtgobbmhkmnaegaaW.PrintLast Go.Proofs.Ytgobbmhkmnaegaa.Wr
set_option linter.unusedVariables false
set_option linter.unusedSimpArgs false

theorem WireRecords : hucksterlaw02_WireRecords.Pure := by
  intro a0 l1 l2 h0 hm1 hr1 hw1 hm2 hr2 hw2
  refine Ev.rounds (g := fun k => hucksterlaw02_WireRecords.f k a0 l1 l2) ?_
  unfold hucksterlaw02_WireRecords.f
  have hb1 : Wr.Bytes l1 := bytes_of hw1
  have hb2 : Wr.Bytes l2 := bytes_of hw2
  clear hm1 hw1 hm2 hw2
  have hbad : Ev (fun k => hucksterlaw02_WireRecords.j0 k a0 l1 l2 true) true := by
    refine Ev.step (f := fun k => (hucksterlaw02_awake.f k).bind fun t => some t) (fun k => ?_) (Ev.bind awake_ev (Ev.now _))
    simp only [hucksterlaw02_WireRecords.j0]
    rfl
  by_cases hl : (l1.length : Int) > 2000
  · exact wl_if hl hbad
  · refine wl_else hl ?_
    by_cases hl2 : (l2.length : Int) > 3000
    · rw [decide_eq_true hl2]
      exact hbad
    · rw [decide_eq_false hl2]
      have hj1 : Ev (fun k => hucksterlaw02_WireRecords.j1 k l2) true := by
        have i1 : ([] : List Int).length + l2.length < 140737488355328 := by rw [List.length_nil]; omega
        refine Ev.step (f := fun k => (wire_GetRecord.f k l2).bind fun bt494 => ((hucksterref02_GetRecord.f k l2).bind fun bt500 => (if bt494.1 = bt500.1 then ((hucksterref02_Bytes.f k bt494.2.1 bt500.2.1).bind fun t506 => (if t506 = true then (if bt494.2.2.1 = bt500.2.2.1 then (if bt494.2.2.2 = bt500.2.2.2 then ((hucksterlaw02_awake.f k).bind fun t507 => (some t507)) else (some false)) else (some false)) else (some false))) else (some false)))) (fun k => ?_) ?_
        · simp only [hucksterlaw02_WireRecords.j1]
          simp only [Option.bind_some, if_pos i1, List.nil_append]
        · refine Ev.bind (getRecord_ev l2 hb2 (by omega)) ?_
          refine Ev.bind (refGetRecord_ev l2 hb2 (by omega)) ?_
          refine wl_if rfl ?_
          have := recR_body l2
          refine Ev.bind (eq_ev _ _ (by omega)) ?_
          refine wl_if (decide_eq_true rfl) (wl_if rfl (wl_if rfl ?_))
          exact Ev.bind awake_ev (Ev.now _)
      by_cases hk : 1 ≤ a0 ∧ a0 ≤ 200 ∧ l1.length ≤ 65536
      · refine Ev.step (f := fun k => (wire_Record.f k a0 l1).bind fun bt479 => (if bt479.2 = 0 then ((hucksterref02_Record.f k a0 l1).bind fun t484 => ((hucksterref02_Bytes.f k bt479.1 t484).bind fun t487 => (if t487 = true then (hucksterlaw02_WireRecords.j1 k l2) else (some false)))) else (some false))) (fun k => ?_) ?_
        · simp only [hucksterlaw02_WireRecords.j0]
          rw [if_neg (by simp)]
          simp only [may_eq, Option.bind_some, decide_eq_true hk, if_true]
        · have hlen := text_length l1 (by omega)
          refine Ev.bind (record_ev a0 l1 ⟨hk.1, hk.2.1⟩ hb1 hk.2.2) ?_
          refine wl_if rfl ?_
          refine Ev.bind (refRecord_ev a0 l1 ⟨hk.1, hk.2.1⟩ hb1 hk.2.2) ?_
          refine Ev.bind (eq_ev _ _ (by unfold record recB; simp only [sum4, List.length_append, List.length_cons, List.length_nil]; omega)) ?_
          exact wl_if (decide_eq_true rfl) hj1
      · refine Ev.step (f := fun k => (wire_Record.f k a0 l1).bind fun bt479 => (if bt479.2 = 1 then (if (bt479.1.length : Int) = 0 then (hucksterlaw02_WireRecords.j1 k l2) else (some false)) else (some false))) (fun k => ?_) ?_
        · simp only [hucksterlaw02_WireRecords.j0]
          rw [if_neg (by simp)]
          simp only [may_eq, Option.bind_some, decide_eq_false hk, Bool.false_eq_true, if_false]
        · refine Ev.bind (record_bad a0 l1 hk) ?_
          exact wl_if rfl (wl_if rfl hj1)
end Go.Proofs.Ytgobbmhkmnaegaa.Pure
