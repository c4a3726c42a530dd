/- ClockChains: what is within what is within is within; of two that are within each other one is the other one, plain. -/
import Derived.Test.YtjpjdipdhakjnaaClockAid
import Derived.Test.YtjpjdipdhakjnaaPClockx5
namespace Go.Proofs.Ytjpjdipdhakjnaa.Pure
open Go.RowKit Go.Proofs.Ytjpjdipdhakjnaa.PClock Go.Proofs.YtjpjdipdhakjnaaW.PrintWords Go.Proofs.YtjpjdipdhakjnaaW.PrintLast Go.Proofs.Ytjpjdipdhakjnaa.ClockBase
set_option linter.unusedVariables false
set_option linter.unusedSimpArgs false

theorem within_trans {a b c : List Int} (h : withinS a b = true) (k : withinS b c = true) : withinS a c = true := by
  rw [withinS_iff] at h k ⊢
  exact le5_trans h k
theorem within_both {a b : List Int} (h : withinS a b = true) : withinS b a = decide (trim (ofL a) = trim (ofL b)) := by
  rw [withinS_iff] at h
  rw [Bool.eq_iff_iff, withinS_iff, decide_eq_true_eq]
  constructor
  · intro k
    rw [le5_anti (ofL_length a) (ofL_length b) h k]
  · intro e
    rw [trim_inj (good_of a) (good_of b) e]
    exact le5_refl _
theorem sum_le {a b : List Int} (h : withinS a b = true) : sumS a ≤ sumS b := by
  rw [withinS_iff] at h
  rw [sum_eq, sum_eq]
  have h0 := h 0 (by omega)
  have h1 := h 1 (by omega)
  have h2 := h 2 (by omega)
  have h3 := h 3 (by omega)
  have h4 := h 4 (by omega)
  omega
theorem ClockChains : hucksterlaw03_ClockChains.Pure := by
  intro a b c hm0 hb0 hw0 hm1 hb1 hw1 hm2 hb2 hw2
  refine Ev.rounds (g := fun k => hucksterlaw03_ClockChains.f k a b c) ?_
  have haw : Ev (fun k => (hucksterlaw03_awake.f k).bind fun t => some t) true := Ev.bind awake_ev (Ev.now _)
  have hbad : Ev (fun k => hucksterlaw03_ClockChains.j0 k a b c true) true := Ev.step (f := fun k => (hucksterlaw03_awake.f k).bind fun t => some t) (fun k => by simp only [hucksterlaw03_ClockChains.j0]; rfl) haw
  have h2 : Ev (fun k => hucksterlaw03_ClockChains.j2 k a b false) true := by
    refine Ev.step (f := fun k => (hucksterlaw03_awake.f k).bind fun t => some t) (fun k => ?_) haw
    simp only [hucksterlaw03_ClockChains.j2, clock_Order.f, clock_Within.f, clock_Sum.f, Option.bind_some]
    rw [if_neg (by simp), order_eq a b, order_eq b a]
    by_cases hp : withinS a b = true
    · have hs := sum_le hp
      by_cases hq : withinS b a = true
      · simp [hp, hq, rd, hs]
      · simp [hp, hq, rd, hs]
    · by_cases hq : withinS b a = true
      · simp [hp, hq, rd]
      · simp [hp, hq, rd]
  have h1 : Ev (fun k => hucksterlaw03_ClockChains.j1 k a b false) true := by
    by_cases hp : withinS a b = true
    · refine Ev.step (f := fun k => (hucksterref03_Same.f k (trim (ofL a)) (trim (ofL b))).bind fun t => hucksterlaw03_ClockChains.j2 k a b (withinS b a != t)) (fun k => ?_) ?_
      · simp only [hucksterlaw03_ClockChains.j1, clock_Within.f, clock_Plain.f, Option.bind_some]
        rw [if_neg (by simp), if_pos hp]
      · refine Ev.bind (same_ev _ _ (trim_five (good_of a))) ?_
        rw [within_both hp, bne_self_eq_false]
        exact h2
    · refine Ev.step (f := fun k => hucksterlaw03_ClockChains.j2 k a b false) (fun k => ?_) h2
      simp only [hucksterlaw03_ClockChains.j1, clock_Within.f, Option.bind_some]
      rw [if_neg (by simp), if_neg hp]
  unfold hucksterlaw03_ClockChains.f
  simp only [light_eq, Option.bind_some]
  by_cases hl : a.length ≤ 50 ∧ b.length ≤ 50
  · refine ck_if (decide_eq_true hl) ?_
    by_cases hc : (c.length : Int) > 50
    · rw [decide_eq_true hc]
      exact hbad
    · rw [decide_eq_false hc]
      refine Ev.step (f := fun k => hucksterlaw03_ClockChains.j1 k a b false) (fun k => ?_) h1
      simp only [hucksterlaw03_ClockChains.j0, clock_Within.f, Option.bind_some]
      rw [if_neg (by simp)]
      by_cases hp : withinS a b = true
      · by_cases hq : withinS b c = true
        · rw [if_pos hp, if_pos hq, within_trans hp hq]
          rfl
        · rw [if_pos hp, if_neg hq]
      · rw [if_neg hp]
  · refine ck_else (by simpa using hl) hbad
end Go.Proofs.Ytjpjdipdhakjnaa.Pure
