/- ClockBounds: two clocks are within their join, and it is within each that both are within; the other way round for what is within both. -/
import Derived.Test.YtjpjdipdhakjnaaClockAid
import Derived.Test.YtjpjdipdhakjnaaPClockx2
namespace Go.Proofs.Ytjpjdipdhakjnaa.Pure
open Go.RowKit Go.Proofs.Ytjpjdipdhakjnaa.PClock Go.Proofs.YtjpjdipdhakjnaaW.PrintWords Go.Proofs.YtjpjdipdhakjnaaW.PrintLast Go.Proofs.Ytjpjdipdhakjnaa.ClockBase
set_option linter.unusedVariables false
set_option linter.unusedSimpArgs false

theorem le_join_left (a b : List Int) : withinS a (trim (joinS [a, b])) = true := by
  rw [withinS_iff, good_trim (good_join _), join_two]
  intro i hi
  rw [zip5 (ofL_length a) (ofL_length b) i hi]
  unfold greater
  split <;> omega
theorem le_join_right (a b : List Int) : withinS b (trim (joinS [a, b])) = true := by
  rw [withinS_iff, good_trim (good_join _), join_two]
  intro i hi
  rw [zip5 (ofL_length a) (ofL_length b) i hi]
  unfold greater
  split <;> omega
theorem meet_le_left (a b : List Int) : withinS (trim (meetS a b)) a = true := by
  rw [withinS_iff, good_trim (good_meet _ _)]
  intro i hi
  unfold meetS
  rw [zip5 (ofL_length a) (ofL_length b) i hi]
  unfold lesser
  split <;> omega
theorem meet_le_right (a b : List Int) : withinS (trim (meetS a b)) b = true := by
  rw [withinS_iff, good_trim (good_meet _ _)]
  intro i hi
  unfold meetS
  rw [zip5 (ofL_length a) (ofL_length b) i hi]
  unfold lesser
  split <;> omega
theorem join_least (a b c : List Int) (h : withinS a c = true) : withinS b c = withinS (trim (joinS [a, b])) c := by
  rw [Bool.eq_iff_iff, withinS_iff, withinS_iff, good_trim (good_join _), join_two]
  rw [withinS_iff] at h
  constructor
  · intro hb i hi
    rw [zip5 (ofL_length a) (ofL_length b) i hi]
    have := h i hi
    have := hb i hi
    unfold greater
    split <;> omega
  · intro hj i hi
    have := hj i hi
    rw [zip5 (ofL_length a) (ofL_length b) i hi] at this
    unfold greater at this
    split at this <;> omega
theorem meet_most (a b c : List Int) (h : withinS c a = true) : withinS c b = withinS c (trim (meetS a b)) := by
  rw [Bool.eq_iff_iff, withinS_iff, withinS_iff, good_trim (good_meet _ _)]
  rw [withinS_iff] at h
  constructor
  · intro hb i hi
    unfold meetS
    rw [zip5 (ofL_length a) (ofL_length b) i hi]
    have := h i hi
    have := hb i hi
    unfold lesser
    split <;> omega
  · intro hj i hi
    have := hj i hi
    unfold meetS at this
    rw [zip5 (ofL_length a) (ofL_length b) i hi] at this
    unfold lesser at this
    split at this <;> omega
theorem join_all (a b c : List Int) : joinS [a, b, c] = joinS [c, trim (joinS [a, b])] := by
  rw [join_two c, good_trim (good_join _), join_three, join_two]
  have hz : (List.zipWith greater (ofL a) (ofL b)).length = 5 := (good_greater (good_of a) (good_of b)).1
  refine good_ext (by rw [List.length_zipWith, hz, ofL_length]; rfl) (by rw [List.length_zipWith, hz, ofL_length]; rfl) (fun i hi => ?_)
  rw [zip5 hz (ofL_length c) i hi, zip5 (ofL_length c) hz i hi]
  unfold greater
  split <;> split <;> omega
theorem ClockBounds : hucksterlaw03_ClockBounds.Pure := by
  intro a b c hm0 hb0 hw0 hm1 hb1 hw1 hm2 hb2 hw2
  refine Ev.rounds (g := fun k => hucksterlaw03_ClockBounds.f k a b c) ?_
  have haw : Ev (fun k => (hucksterlaw03_awake.f k).bind fun t => some t) true := Ev.bind awake_ev (Ev.now _)
  have hbad : Ev (fun k => hucksterlaw03_ClockBounds.j0 k a b c true) true := Ev.step (f := fun k => (hucksterlaw03_awake.f k).bind fun t => some t) (fun k => by simp only [hucksterlaw03_ClockBounds.j0]; rfl) haw
  unfold hucksterlaw03_ClockBounds.f
  simp only [light_eq, Option.bind_some]
  by_cases hl : a.length ≤ 50 ∧ b.length ≤ 50
  · refine ck_if (decide_eq_true hl) ?_
    by_cases hc : (c.length : Int) > 50
    · rw [decide_eq_true hc]
      exact hbad
    · rw [decide_eq_false hc]
      have h3 : Ev (fun k => hucksterlaw03_ClockBounds.j3 k a b c (trim (joinS [a, b])) false) true := by
        refine Ev.step (f := fun k => (hucksterref03_Same.f k (trim (joinS [a, b, c])) (trim (joinS [c, trim (joinS [a, b])]))).bind fun t => if t = true then (hucksterlaw03_awake.f k).bind fun t => some t else some false) (fun k => by simp only [hucksterlaw03_ClockBounds.j3, clock_Join.f, Option.bind_some]; rfl) ?_
        rw [← join_all a b c]
        exact Ev.bind (same_yes _ (trim_five (good_join _))) (ck_if rfl haw)
      have h2 : Ev (fun k => hucksterlaw03_ClockBounds.j2 k a b c (trim (joinS [a, b])) (trim (meetS a b)) false) true := by
        refine Ev.step (f := fun k => hucksterlaw03_ClockBounds.j3 k a b c (trim (joinS [a, b])) false) (fun k => ?_) h3
        simp only [hucksterlaw03_ClockBounds.j2, clock_Within.f, Option.bind_some]
        rw [if_neg (by simp)]
        by_cases h : withinS c a = true
        · rw [if_pos h, meet_most a b c h]
          simp
        · rw [if_neg h]
      have h1 : Ev (fun k => hucksterlaw03_ClockBounds.j1 k a b c (trim (joinS [a, b])) (trim (meetS a b)) false) true := by
        refine Ev.step (f := fun k => hucksterlaw03_ClockBounds.j2 k a b c (trim (joinS [a, b])) (trim (meetS a b)) false) (fun k => ?_) h2
        simp only [hucksterlaw03_ClockBounds.j1, clock_Within.f, Option.bind_some]
        rw [if_neg (by simp)]
        by_cases h : withinS a c = true
        · rw [if_pos h, join_least a b c h]
          simp
        · rw [if_neg h]
      refine Ev.step (f := fun k => hucksterlaw03_ClockBounds.j1 k a b c (trim (joinS [a, b])) (trim (meetS a b)) false) (fun k => ?_) h1
      simp only [hucksterlaw03_ClockBounds.j0, clock_Join.f, clock_Meet.f, clock_Within.f, Option.bind_some]
      rw [if_neg (by simp), if_pos (le_join_left a b), if_pos (le_join_right a b), if_pos (meet_le_left a b), meet_le_right a b]
      rfl
  · refine ck_else (by simpa using hl) hbad
end Go.Proofs.Ytjpjdipdhakjnaa.Pure
