/- ClockTurns: which clocks there may be, and any one plain, set and ticked. -/
import Derived.Test.YtjpjdipdhakjnaaClockAid
import Derived.Test.YtjpjdipdhakjnaaPClockx4
import Derived.Test.YtjpjdipdhakjnaaPClockx5
namespace Go.Proofs.Ytjpjdipdhakjnaa.Pure
open Go.RowKit Go.Proofs.Ytjpjdipdhakjnaa.PClock Go.Proofs.YtjpjdipdhakjnaaW.PrintWords Go.Proofs.YtjpjdipdhakjnaaW.PrintLast Go.Proofs.Ytjpjdipdhakjnaa.ClockBase
set_option linter.unusedVariables false
set_option linter.unusedSimpArgs false

theorem getS_good (l : List Int) (rep : Int) : 0 ≤ getS l rep ∧ getS l rep ≤ 1048576 := by
  unfold getS
  split
  · exact good_at (good_of l) _
  · omega
theorem setS_good {l : List Int} {rep n : Int} (hk : setOk rep n = true) : GoodC ((ofL l).set (rep - 1).toNat n) := by
  unfold setOk at hk
  simp only [Bool.and_eq_true, decide_eq_true_eq] at hk
  exact good_set (good_of l) _ hk.2.1 hk.2.2
def tickS (l : List Int) (rep : Int) : List Int × Int := if 1 ≤ rep ∧ rep ≤ 5 then (if getS l rep = 1048576 then ([], 6) else (setS l rep (getS l rep + 1), 0)) else ([], 1)
theorem tick_ok {l : List Int} {rep : Int} (h : ¬ getS l rep = 1048576) (hr : 1 ≤ rep ∧ rep ≤ 5) : setOk rep (getS l rep + 1) = true := by
  have hg := getS_good l rep
  unfold setOk
  simp only [Bool.and_eq_true, decide_eq_true_eq]
  omega
theorem tick_eq (l : List Int) (rep : Int) : clock_Tick.f l rep = some (tickS l rep) := by
  have hg := getS_good l rep
  unfold clock_Tick.f clock_there.f clock_Get.f clock_Set.f tickS
  by_cases h1 : rep ≥ 1
  · by_cases h5 : rep ≤ 5
    · by_cases hf : getS l rep = 1048576
      · simp [h1, h5, hf]
      · have hw : wrap64 (getS l rep + 1) = getS l rep + 1 := by unfold wrap64; omega
        have hk := tick_ok hf ⟨h1, h5⟩
        have h1' : 1 ≤ rep := h1
        simp [h1', h5, hf, hw, hk]
    · simp [h1, h5]
  · have h1' : ¬ 1 ≤ rep := h1
    simp [h1']
theorem ClockTurns : hucksterlaw03_ClockTurns.Pure := by
  intro l rep n hm0 hb0 hw0 hw1 hw2
  refine Ev.rounds (g := fun k => hucksterlaw03_ClockTurns.f k l rep n) ?_
  have hl : l.length ≤ 140737488355328 := by omega
  have haw : Ev (fun k => (hucksterlaw03_awake.f k).bind fun t => some t) true := Ev.bind awake_ev (Ev.now _)
  unfold hucksterlaw03_ClockTurns.f
  simp only [light_eq, tick_eq, Option.bind_some, clock_Check.f, clock_Plain.f, clock_Get.f, clock_Sum.f]
  by_cases hlen : l.length ≤ 50 ∧ ([] : List Int).length ≤ 50
  · refine ck_if (decide_eq_true hlen) ?_
    obtain ⟨s, hs⟩ : ∃ s, clock_Set.f l rep n = some s := by
      unfold clock_Set.f
      split
      · exact ⟨_, rfl⟩
      · exact ⟨_, rfl⟩
    simp only [hs, Option.bind_some]
    refine Ev.bind (may_ev l hl) ?_
    refine ck_else (by cases okC l <;> simp) ?_
    refine Ev.bind (plain_ev l hl) (Ev.bind (same_yes _ (trim_five (good_of l))) (ck_if rfl ?_))
    refine Ev.bind (get_ev l rep hl) (ck_if rfl ?_)
    refine Ev.bind (sum_ev l hl) ?_
    simp only [bne_self_eq_false]
    have hT : 1 ≤ rep ∧ rep ≤ 5 → Ev (fun k => hucksterlaw03_ClockTurns.j3 k l rep (tickS l rep).1 (tickS l rep).2) true := by
      intro hr
      refine Ev.step (f := fun k => (hucksterref03_Get.f k l rep).bind fun t329 => (if t329 = 1048576 then (if (tickS l rep).2 = 6 then (if ((tickS l rep).1.length : Int) = 0 then ((hucksterlaw03_awake.f k).bind fun t330 => (some t330)) else (some false)) else (some false)) else (if (tickS l rep).2 = 0 then ((hucksterref03_Set.f k l rep (wrap64 (t329 + 1))).bind fun t331 => ((hucksterref03_Same.f k (tickS l rep).1 t331).bind fun t334 => (if t334 = true then ((hucksterlaw03_awake.f k).bind fun t335 => (some t335)) else (some false)))) else (some false)))) (fun k => by simp only [hucksterlaw03_ClockTurns.j3]) ?_
      refine Ev.bind (get_ev l rep hl) ?_
      by_cases hf : getS l rep = 1048576
      · have e : tickS l rep = ([], 6) := by unfold tickS; rw [if_pos hr, if_pos hf]
        rw [e]
        exact ck_if hf (ck_if rfl (ck_if rfl haw))
      · have e : tickS l rep = (setS l rep (getS l rep + 1), 0) := by unfold tickS; rw [if_pos hr, if_neg hf]
        rw [e]
        have hg := getS_good l rep
        have hw : wrap64 (getS l rep + 1) = getS l rep + 1 := by unfold wrap64; omega
        have hk := tick_ok hf hr
        rw [hw]
        exact ck_else hf (ck_if rfl (Ev.bind (set_ev l rep _ hl hk) (Ev.bind (same_yes _ (trim_five (setS_good hk))) (ck_if rfl haw))))
    have hTb : ¬ (1 ≤ rep ∧ rep ≤ 5) → tickS l rep = ([], 1) := fun hr => by unfold tickS; rw [if_neg hr]
    generalize tickS l rep = T at hT hTb ⊢
    have h0 : Ev (fun k => hucksterlaw03_ClockTurns.j1 k l rep n s.1 s.2 T.1 T.2 (decide (rep < 1 ∨ rep > 5))) true := by
      by_cases hr : 1 ≤ rep ∧ rep ≤ 5
      · rw [decide_eq_false (by omega)]
        have hj3 := hT hr
        refine Ev.step (f := fun k => hucksterlaw03_ClockTurns.j2 k l rep n s.1 s.2 T.1 T.2 (decide (n < 0 ∨ n > 1048576))) (fun k => ?_) ?_
        · simp only [hucksterlaw03_ClockTurns.j1]
          rw [if_neg (by simp)]
          by_cases h : n < 0
          · rw [if_pos h, decide_eq_true (Or.inl h)]
          · rw [if_neg h]
            congr 1
            exact decide_eq_decide.2 ⟨Or.inr, fun hh => hh.resolve_left h⟩
        · by_cases hn : n < 0 ∨ n > 1048576
          · rw [decide_eq_true hn]
            have hk : ¬ setOk rep n = true := by
              unfold setOk
              simp only [Bool.and_eq_true, decide_eq_true_eq]
              omega
            unfold clock_Set.f at hs
            rw [if_neg hk] at hs
            obtain rfl := Option.some.inj hs
            refine Ev.step (f := fun k => hucksterlaw03_ClockTurns.j3 k l rep T.1 T.2) (fun k => ?_) hj3
            simp only [hucksterlaw03_ClockTurns.j2]
            rfl
          · rw [decide_eq_false hn]
            have hk : setOk rep n = true := by
              unfold setOk
              simp only [Bool.and_eq_true, decide_eq_true_eq]
              omega
            unfold clock_Set.f at hs
            rw [if_pos hk] at hs
            obtain rfl := Option.some.inj hs
            refine Ev.step (f := fun k => (hucksterref03_Set.f k l rep n).bind fun t => (hucksterref03_Same.f k (setS l rep n) t).bind fun t => if t = true then hucksterlaw03_ClockTurns.j3 k l rep T.1 T.2 else some false) (fun k => ?_) ?_
            · simp only [hucksterlaw03_ClockTurns.j2]
              rfl
            · exact Ev.bind (set_ev l rep n hl hk) (Ev.bind (same_yes _ (trim_five (setS_good hk))) (ck_if rfl hj3))
      · rw [decide_eq_true (by omega)]
        obtain rfl := hTb hr
        have hk : ¬ setOk rep n = true := by
          unfold setOk
          simp only [Bool.and_eq_true, decide_eq_true_eq]
          omega
        unfold clock_Set.f at hs
        rw [if_neg hk] at hs
        obtain rfl := Option.some.inj hs
        refine Ev.step (f := fun k => (hucksterlaw03_awake.f k).bind fun t => some t) (fun k => ?_) haw
        simp only [hucksterlaw03_ClockTurns.j1]
        rfl
    refine Ev.step (f := fun k => hucksterlaw03_ClockTurns.j1 k l rep n s.1 s.2 T.1 T.2 (decide (rep < 1 ∨ rep > 5))) (fun k => ?_) h0
    simp only [hucksterlaw03_ClockTurns.j0]
    rw [if_neg (by simp)]
    by_cases h : rep < 1
    · rw [if_pos h, decide_eq_true (Or.inl h)]
    · rw [if_neg h]
      congr 1
      exact decide_eq_decide.2 ⟨Or.inr, fun hh => hh.resolve_left h⟩
  · exact ck_else (by simpa using hlen) haw
end Go.Proofs.Ytjpjdipdhakjnaa.Pure
