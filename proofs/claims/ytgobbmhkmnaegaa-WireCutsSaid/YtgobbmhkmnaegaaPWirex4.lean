-- Written by a program of this session (a patched printer) out of the translation. Not trusted: Lean checks it.
import Derived.Test.YtgobbmhkmnaegaaPWirex0
namespace Go.Proofs.Ytgobbmhkmnaegaa.PWire
open Go.RowKit Go.Proofs.YtgobbmhkmnaegaaW.PrintWords Go.Proofs.YtgobbmhkmnaegaaW.PrintLast Go.Proofs.YtgobbmhkmnaegaaW.PrintMore
attribute [local go_sem] max2_int min2_int max_two min_two max_three min_three max_four min_four   -- for this text's walks alone
set_option linter.unusedVariables false
set_option linter.unusedSimpArgs false

/-! ### wire_GetNum: function 18 -/
mutual
def wire_GetNum.j0 : Nat → List Int → Bool → Option (Int × Int × Int)
  | 0, _, _ => none
  | k + 1, x0, x38 => if x38 = true then (some (0, 0, 2)) else (if 0 < (x0.length : Int) then (if 1 ≤ (wrap64 ((wrap64 (rd x0 0)) + 1)) then (if (wrap64 ((wrap64 (rd x0 0)) + 1)) ≤ (x0.length : Int) then (wire_GetNum.l0 k (wrap64 ((wrap64 (rd x0 0)) + 1)) 0 ((x0.take ((wrap64 ((wrap64 (rd x0 0)) + 1)) : Int).toNat).drop 1) (((x0.take ((wrap64 ((wrap64 (rd x0 0)) + 1)) : Int).toNat).drop 1).length : Int) 0) else (none)) else (none)) else (none))
def wire_GetNum.l0 : Nat → Int → Int → List Int → Int → Int → Option (Int × Int × Int)
  | 0, _, _, _, _, _ => none
  | k + 1, x5, x6, x46, x47, x48 => if x48 < x47 then (if 0 ≤ x48 then (if x48 < (x46.length : Int) then (wire_GetNum.l0 k x5 (Go.bits .or .u64 (IntKind.u64.wrap (x6 * 256)) (IntKind.u64.wrap (rd x46 x48))) x46 x47 (wrap64 (x48 + 1))) else (none)) else (none)) else (some (x6, x5, 0))
end
def wire_GetNum.f (k : Nat) (l0 : List Int) : Option (Int × Int × Int) := if (l0.length : Int) = 0 then (wire_GetNum.j0 k l0 true) else (if 0 < (l0.length : Int) then (if (rd l0 0) > 8 then (wire_GetNum.j0 k l0 true) else (if (l0.length : Int) ≤ (wrap64 (rd l0 0)) then (wire_GetNum.j0 k l0 true) else (if (rd l0 0) > 0 then (if 1 < (l0.length : Int) then (wire_GetNum.j0 k l0 ((rd l0 1) == 0)) else (none)) else (wire_GetNum.j0 k l0 false)))) else (none))
theorem wire_GetNum.mono_l : ∀ k, (∀ y0 y1, LeO (wire_GetNum.j0 k y0 y1) (wire_GetNum.j0 (k + 1) y0 y1)) ∧ (∀ y0 y1 y2 y3 y4, LeO (wire_GetNum.l0 k y0 y1 y2 y3 y4) (wire_GetNum.l0 (k + 1) y0 y1 y2 y3 y4))
  | 0 => ⟨fun _ _ r h => by simp [wire_GetNum.j0] at h, fun _ _ _ _ _ r h => by simp [wire_GetNum.l0] at h⟩
  | k + 1 => by
    obtain ⟨ih0, ih1⟩ := wire_GetNum.mono_l k
    refine ⟨?_, ?_⟩
    · intro y0 y1
      unfold wire_GetNum.j0
      repeat' first
      | (with_reducible exact ih0 _ _)
      | (with_reducible exact ih1 _ _ _ _ _)
      | (with_reducible exact LeO.refl _)
      | (with_reducible exact LeO.none _)
      | (with_reducible refine LeO.ite ?_ ?_)
      | (with_reducible refine LeO.bind ?_ (fun _ => ?_))
      | exact ih0 _ _
      | exact ih1 _ _ _ _ _
      | exact LeO.none _
      | refine LeO.ite ?_ ?_
      | refine LeO.bind ?_ (fun _ => ?_)
    · intro y0 y1 y2 y3 y4
      unfold wire_GetNum.l0
      repeat' first
      | (with_reducible exact ih0 _ _)
      | (with_reducible exact ih1 _ _ _ _ _)
      | (with_reducible exact LeO.refl _)
      | (with_reducible exact LeO.none _)
      | (with_reducible refine LeO.ite ?_ ?_)
      | (with_reducible refine LeO.bind ?_ (fun _ => ?_))
      | exact ih0 _ _
      | exact ih1 _ _ _ _ _
      | exact LeO.none _
      | refine LeO.ite ?_ ?_
      | refine LeO.bind ?_ (fun _ => ?_)
theorem wire_GetNum.mono : ∀ a0 k, LeO (wire_GetNum.f k a0) (wire_GetNum.f (k + 1) a0) := by
  intro a0 k
  obtain ⟨ih0, ih1⟩ := wire_GetNum.mono_l k
  unfold wire_GetNum.f
  repeat' first
      | (with_reducible exact ih0 _ _)
      | (with_reducible exact ih1 _ _ _ _ _)
      | (with_reducible exact LeO.refl _)
      | (with_reducible exact LeO.none _)
      | (with_reducible refine LeO.ite ?_ ?_)
      | (with_reducible refine LeO.bind ?_ (fun _ => ?_))
      | exact ih0 _ _
      | exact ih1 _ _ _ _ _
      | exact LeO.none _
      | refine LeO.ite ?_ ?_
      | refine LeO.bind ?_ (fun _ => ?_)
set_option maxHeartbeats 8000000 in
set_option maxRecDepth 100000 in
theorem wire_GetNum.calls (k : Nat) (A0 : Option Addr) (c0 : Nat) (l0 : List Int) (r1 : Int) (r2 : Int) (r3 : Int) (w : World) (hr0 : Kd.C (Kd.int .u8) w A0 l0.length l0) (hc0 : l0.length ≤ c0) (h : wire_GetNum.f k l0 = some (r1, r2, r3)) :
    Calls Try.prog 18 #[.slice A0 l0.length c0] w fun e w' => e = .returned (.tuple #[.int .u64 r1, .int .i64 r2, .int .i64 r3]) ∧ Drawn0 w w' := by
  have HR0 := Aside0.mk hr0
  have HC0 := Aside0.mk hc0
  clear hr0 hc0
  have H : (if (l0.length : Int) = 0 then (wire_GetNum.j0 k l0 true) else (if 0 < (l0.length : Int) then (if (rd l0 0) > 8 then (wire_GetNum.j0 k l0 true) else (if (l0.length : Int) ≤ (wrap64 (rd l0 0)) then (wire_GetNum.j0 k l0 true) else (if (rd l0 0) > 0 then (if 1 < (l0.length : Int) then (wire_GetNum.j0 k l0 ((rd l0 1) == 0)) else (none)) else (wire_GetNum.j0 k l0 false)))) else (none))) = some (r1, r2, r3) := h
  clear h
  have HC2 := Aside0.mk H
  clear H
  go_enter Try.func18, Try.ntmps18
  go_upto_region 1 with (fail)
  go_cut [38] (fun v38 wc => ∃ (kq : Nat) (x38_1 : Bool), v38 = .bool x38_1 ∧ Aside0 (wire_GetNum.j0 kq l0 x38_1 = some (r1, r2, r3)) ∧ Aside0 (kq ≤ k) ∧ Drawn0 w wc)
  case first =>
    have H := HC2.out
    clear HC2
    by_cases c3 : (l0.length : Int) = 0
    · rw [if_pos c3] at H
      have c3b0 : ((l0.length : Int) == 0) = true := beq_iff_eq.mpr c3
      have c3b1 : ((l0.length : Int) != 0) = false := bne_eq_false_iff_eq.mpr c3
      clear c3
      (first | rw [c3b0] | (simp only [i64_w, i32_w]; rw [c3b0]) | skip)
      have H' := Aside0.mk H
      clear H
      go_wp2
      go_meet
      case rel => exact ⟨_, (true), (by first | rfl | (simp; done) | (simp [*]; done)), H', ⟨by first | omega | exact Nat.le_refl _⟩, by repeat (first | exact Drawn0.refl _ | apply Drawn0.step)⟩
    · rw [if_neg c3] at H
      have c3b0 : ((l0.length : Int) == 0) = false := beq_eq_false_iff_ne.mpr c3
      have c3b1 : ((l0.length : Int) != 0) = true := bne_iff_ne.mpr c3
      have c3b2 : ¬ (l0 = []) := fun h_ => c3 (by rw [h_]; rfl)
      (first | rw [c3b0] | (simp only [i64_w, i32_w]; rw [c3b0]) | skip)
      by_cases c4 : 0 < (l0.length : Int)
      · rw [if_pos c4] at H
        have c4b0 : decide (0 < (l0.length : Int)) = true := decide_eq_true c4
        have c4b1 : decide (0 < l0.length) = true := decide_eq_true (by omega)
        clear c4
        by_cases c5 : (rd l0 0) > 8
        · rw [if_pos c5] at H
          have c5b0 : decide (8 < (rd l0 0)) = true := decide_eq_true c5
          clear c5
          have H' := Aside0.mk H
          clear H
          have p205 : 0 ≤ (0 : Int) := (by omega)
          have q205 : 0 < (l0.length : Int) := of_decide_eq_true (by first | (with_reducible assumption) | assumption)
          obtain ⟨ad205, e205, hx205_0⟩ := Kd.at_int HR0.out 0 p205 q205
          cases e205
          have qi205 : (0 < l0.length) = True := eq_true (by omega)
          (try rw [show ((0 : Int)).toNat = 0 from rfl] at hx205_0)
          (try rw [Addr.add_zero'] at hx205_0)
          replace p205 := eq_true p205
          replace q205 := eq_true q205
          go_wp2
          go_meet
          case rel => exact ⟨_, (true), (by first | rfl | (simp; done) | (simp [*]; done)), H', ⟨by first | omega | exact Nat.le_refl _⟩, by repeat (first | exact Drawn0.refl _ | apply Drawn0.step)⟩
        · rw [if_neg c5] at H
          have c5b0 : decide (8 < (rd l0 0)) = false := decide_eq_false c5
          clear c5
          by_cases c6 : (l0.length : Int) ≤ (wrap64 (rd l0 0))
          · rw [if_pos c6] at H
            have c6b0 : decide ((l0.length : Int) ≤ (wrap64 (rd l0 0))) = true := decide_eq_true c6
            clear c6
            have H' := Aside0.mk H
            clear H
            have p205 : 0 ≤ (0 : Int) := (by omega)
            have q205 : 0 < (l0.length : Int) := of_decide_eq_true (by first | (with_reducible assumption) | assumption)
            obtain ⟨ad205, e205, hx205_0⟩ := Kd.at_int HR0.out 0 p205 q205
            cases e205
            have qi205 : (0 < l0.length) = True := eq_true (by omega)
            (try rw [show ((0 : Int)).toNat = 0 from rfl] at hx205_0)
            (try rw [Addr.add_zero'] at hx205_0)
            replace p205 := eq_true p205
            replace q205 := eq_true q205
            have p206 : 0 ≤ (0 : Int) := (by omega)
            have q206 : 0 < (l0.length : Int) := of_decide_eq_true (by first | (with_reducible assumption) | assumption)
            obtain ⟨ad206, e206, hx206_0⟩ := Kd.at_int HR0.out 0 p206 q206
            obtain rfl : ad205 = ad206 := (by injection e206)
            have qi206 : (0 < l0.length) = True := eq_true (by omega)
            (try rw [show ((0 : Int)).toNat = 0 from rfl] at hx206_0)
            (try rw [Addr.add_zero'] at hx206_0)
            replace p206 := eq_true p206
            replace q206 := eq_true q206
            go_wp2
            go_meet
            case rel => exact ⟨_, (true), (by first | rfl | (simp; done) | (simp [*]; done)), H', ⟨by first | omega | exact Nat.le_refl _⟩, by repeat (first | exact Drawn0.refl _ | apply Drawn0.step)⟩
          · rw [if_neg c6] at H
            have c6b0 : decide ((l0.length : Int) ≤ (wrap64 (rd l0 0))) = false := decide_eq_false c6
            clear c6
            by_cases c7 : (rd l0 0) > 0
            · rw [if_pos c7] at H
              have c7b0 : decide (0 < (rd l0 0)) = true := decide_eq_true c7
              clear c7
              by_cases c8 : 1 < (l0.length : Int)
              · rw [if_pos c8] at H
                have c8b0 : decide (1 < (l0.length : Int)) = true := decide_eq_true c8
                have c8b1 : decide (1 < l0.length) = true := decide_eq_true (by omega)
                clear c8
                have H' := Aside0.mk H
                clear H
                have p205 : 0 ≤ (0 : Int) := (by omega)
                have q205 : 0 < (l0.length : Int) := of_decide_eq_true (by first | (with_reducible assumption) | assumption)
                obtain ⟨ad205, e205, hx205_0⟩ := Kd.at_int HR0.out 0 p205 q205
                cases e205
                have qi205 : (0 < l0.length) = True := eq_true (by omega)
                (try rw [show ((0 : Int)).toNat = 0 from rfl] at hx205_0)
                (try rw [Addr.add_zero'] at hx205_0)
                replace p205 := eq_true p205
                replace q205 := eq_true q205
                have p206 : 0 ≤ (0 : Int) := (by omega)
                have q206 : 0 < (l0.length : Int) := of_decide_eq_true (by first | (with_reducible assumption) | assumption)
                obtain ⟨ad206, e206, hx206_0⟩ := Kd.at_int HR0.out 0 p206 q206
                obtain rfl : ad205 = ad206 := (by injection e206)
                have qi206 : (0 < l0.length) = True := eq_true (by omega)
                (try rw [show ((0 : Int)).toNat = 0 from rfl] at hx206_0)
                (try rw [Addr.add_zero'] at hx206_0)
                replace p206 := eq_true p206
                replace q206 := eq_true q206
                have p207 : 0 ≤ (0 : Int) := (by omega)
                have q207 : 0 < (l0.length : Int) := of_decide_eq_true (by first | (with_reducible assumption) | assumption)
                obtain ⟨ad207, e207, hx207_0⟩ := Kd.at_int HR0.out 0 p207 q207
                obtain rfl : ad205 = ad207 := (by injection e207)
                have qi207 : (0 < l0.length) = True := eq_true (by omega)
                (try rw [show ((0 : Int)).toNat = 0 from rfl] at hx207_0)
                (try rw [Addr.add_zero'] at hx207_0)
                replace p207 := eq_true p207
                replace q207 := eq_true q207
                have p208 : 0 ≤ (1 : Int) := (by omega)
                have q208 : 1 < (l0.length : Int) := of_decide_eq_true (by first | (with_reducible assumption) | assumption)
                obtain ⟨ad208, e208, hx208_0⟩ := Kd.at_int HR0.out 1 p208 q208
                obtain rfl : ad205 = ad208 := (by injection e208)
                (try simp only [show (1 : Int).toNat = 1 from rfl, Nat.reduceMul, Nat.reduceEqDiff, Go.Addr.add, ↓reduceIte] at hx208_0)
                have qi208 : (1 < l0.length) = True := eq_true (by omega)
                (try rw [show ((1 : Int)).toNat = 1 from rfl] at hx208_0)
                replace p208 := eq_true p208
                replace q208 := eq_true q208
                go_wp2
                go_meet
                case rel => exact ⟨_, (((rd l0 1) == 0)), (by first | rfl | (simp; done) | (simp [*]; done)), H', ⟨by first | omega | exact Nat.le_refl _⟩, by repeat (first | exact Drawn0.refl _ | apply Drawn0.step)⟩
              · rw [if_neg c8] at H
                exact absurd H (by simp)
            · rw [if_neg c7] at H
              have c7b0 : decide (0 < (rd l0 0)) = false := decide_eq_false c7
              clear c7
              have H' := Aside0.mk H
              clear H
              have p205 : 0 ≤ (0 : Int) := (by omega)
              have q205 : 0 < (l0.length : Int) := of_decide_eq_true (by first | (with_reducible assumption) | assumption)
              obtain ⟨ad205, e205, hx205_0⟩ := Kd.at_int HR0.out 0 p205 q205
              cases e205
              have qi205 : (0 < l0.length) = True := eq_true (by omega)
              (try rw [show ((0 : Int)).toNat = 0 from rfl] at hx205_0)
              (try rw [Addr.add_zero'] at hx205_0)
              replace p205 := eq_true p205
              replace q205 := eq_true q205
              have p206 : 0 ≤ (0 : Int) := (by omega)
              have q206 : 0 < (l0.length : Int) := of_decide_eq_true (by first | (with_reducible assumption) | assumption)
              obtain ⟨ad206, e206, hx206_0⟩ := Kd.at_int HR0.out 0 p206 q206
              obtain rfl : ad205 = ad206 := (by injection e206)
              have qi206 : (0 < l0.length) = True := eq_true (by omega)
              (try rw [show ((0 : Int)).toNat = 0 from rfl] at hx206_0)
              (try rw [Addr.add_zero'] at hx206_0)
              replace p206 := eq_true p206
              replace q206 := eq_true q206
              have p207 : 0 ≤ (0 : Int) := (by omega)
              have q207 : 0 < (l0.length : Int) := of_decide_eq_true (by first | (with_reducible assumption) | assumption)
              obtain ⟨ad207, e207, hx207_0⟩ := Kd.at_int HR0.out 0 p207 q207
              obtain rfl : ad205 = ad207 := (by injection e207)
              have qi207 : (0 < l0.length) = True := eq_true (by omega)
              (try rw [show ((0 : Int)).toNat = 0 from rfl] at hx207_0)
              (try rw [Addr.add_zero'] at hx207_0)
              replace p207 := eq_true p207
              replace q207 := eq_true q207
              go_wp2
              go_meet
              case rel => exact ⟨_, (false), (by first | rfl | (simp; done) | (simp [*]; done)), H', ⟨by first | omega | exact Nat.le_refl _⟩, by repeat (first | exact Drawn0.refl _ | apply Drawn0.step)⟩
      · rw [if_neg c4] at H
        exact absurd H (by simp)
  case rest =>
    clear HC2
    try clear c1
    try clear p2
    try clear q2
    try clear hx2
    try clear qi2
    try clear c3
    try clear c3b0
    try clear c3b1
    try clear c3b2
    try clear c4
    try clear c4b0
    try clear c4b1
    try clear c5
    try clear c5b0
    try clear c6
    try clear c6b0
    try clear p6
    try clear c7
    try clear c7b0
    try clear c8
    try clear c8b0
    try clear c8b1
    try clear hx205_0
    try clear hx206_0
    try clear hx207_0
    try clear hx208_0
    try clear p205
    try clear p206
    try clear p207
    try clear p208
    try clear q205
    try clear q206
    try clear q207
    try clear q208
    obtain ⟨kq, x38_1, rfl, HA, HJ1, ⟨mc1, rfl⟩⟩ := hcut
    cases kq with
    | zero => exact absurd HA.out (by simp [wire_GetNum.j0])
    | succ kj1 =>
      have H := HA.out
      clear HA
      simp only [wire_GetNum.j0] at H
      by_cases c9 : x38_1 = true
      · subst c9
        have H1 : (some (0, 0, 2)) = some (r1, r2, r3) := by rw [if_pos rfl] at H; exact H
        clear H
        have H := H1
        clear H1
        simp only [Option.some.injEq, Prod.mk.injEq] at H
        obtain ⟨rfl, rfl, rfl⟩ := H
        go_wp2
        go_ret3
        exact ⟨by first | rfl | (simp; done) | (simp [*]; done), by repeat (first | exact Drawn0.refl _ | apply Drawn0.step)⟩
      · replace c9 := Bool.eq_false_iff.mpr c9
        subst c9
        have H1 : (if 0 < (l0.length : Int) then (if 1 ≤ (wrap64 ((wrap64 (rd l0 0)) + 1)) then (if (wrap64 ((wrap64 (rd l0 0)) + 1)) ≤ (l0.length : Int) then (wire_GetNum.l0 kj1 (wrap64 ((wrap64 (rd l0 0)) + 1)) 0 ((l0.take ((wrap64 ((wrap64 (rd l0 0)) + 1)) : Int).toNat).drop 1) (((l0.take ((wrap64 ((wrap64 (rd l0 0)) + 1)) : Int).toNat).drop 1).length : Int) 0) else (none)) else (none)) else (none)) = some (r1, r2, r3) := by rw [if_neg (show ¬ (false = true) by decide)] at H; exact H
        clear H
        have H := H1
        clear H1
        by_cases c10 : 0 < (l0.length : Int)
        · rw [if_pos c10] at H
          have c10b0 : decide (0 < (l0.length : Int)) = true := decide_eq_true c10
          have c10b1 : decide (0 < l0.length) = true := decide_eq_true (by omega)
          clear c10
          by_cases c11 : 1 ≤ (wrap64 ((wrap64 (rd l0 0)) + 1))
          · rw [if_pos c11] at H
            have c11b0 := eq_true c11
            have c11b1 : decide (1 ≤ (wrap64 ((wrap64 (rd l0 0)) + 1))) = true := decide_eq_true c11
            by_cases c12 : (wrap64 ((wrap64 (rd l0 0)) + 1)) ≤ (l0.length : Int)
            · rw [if_pos c12] at H
              have c12b0 := eq_true c12
              have c12b1 : decide ((wrap64 ((wrap64 (rd l0 0)) + 1)) ≤ (l0.length : Int)) = true := decide_eq_true c12
              have H' := Aside0.mk H
              clear H
              have p209 : 0 ≤ (0 : Int) := (by omega)
              have q209 : 0 < (l0.length : Int) := of_decide_eq_true (by first | (with_reducible assumption) | assumption)
              obtain ⟨ad209, e209, hx209_0⟩ := Kd.at_int HR0.out 0 p209 q209
              cases e209
              have qi209 : (0 < l0.length) = True := eq_true (by omega)
              (try rw [show ((0 : Int)).toNat = 0 from rfl] at hx209_0)
              (try rw [Addr.add_zero'] at hx209_0)
              replace p209 := eq_true p209
              replace q209 := eq_true q209
              obtain ⟨i013, hi013, _, hsz13, _⟩ := info_parts info5
              obtain ⟨A13, hcut13, hA13, hC13⟩ := print_mid_of (P := Try.prog) (Value.int .u8) 0 27 5 .i64 .i64 Try.underlying27 hi013 hsz13 (some ad209) c0 l0 1 (wrap64 ((wrap64 (rd l0 0)) + 1)) (by omega) (by first | omega | exact of_decide_eq_true (by first | (with_reducible assumption) | assumption)) (of_decide_eq_true (by first | (with_reducible assumption) | assumption)) HC0.out
              have HR210 := Aside0.mk (Kd.C_of_reads (h1 := fun _ => rfl) (hA13 _ (Kd.reads_of_C HR0.out)))
              have HC210 := Aside0.mk hC13
              clear hA13 hC13 hi013 hsz13
              (try simp only [show Int.toNat 1 = 1 from rfl] at hcut13)
              (try simp only [show Int.toNat 1 = 1 from rfl] at HC0)
              (try simp only [show Int.toNat 1 = 1 from rfl] at HC210)
              (try simp only [show Int.toNat 1 = 1 from rfl] at HR0)
              (try simp only [show Int.toNat 1 = 1 from rfl] at HR210)
              obtain ⟨Y13, hY13⟩ : ∃ y_ : List Int, y_ = ((l0.take ((wrap64 ((wrap64 (rd l0 0)) + 1)) : Int).toNat).drop 1) := ⟨_, rfl⟩
              (try rw [← hY13] at hcut13)
              (try rw [← hY13] at HC0)
              (try rw [← hY13] at HC210)
              (try rw [← hY13] at HR0)
              (try rw [← hY13] at HR210)
              (try rw [← hY13] at H')
              have NY13 := Aside0.mk hY13
              clear hY13
              go_wp2
              go_loopg [6, 48] kj1 (fun kq v6 v48 w' => ∃ (x6_2 : Int) (x48_2 : Int), v6 = .int .u64 x6_2 ∧ v48 = .int .i64 x48_2 ∧ Aside0 (wire_GetNum.l0 kq (wrap64 ((wrap64 (rd l0 0)) + 1)) x6_2 Y13 (Y13.length : Int) x48_2 = some (r1, r2, r3)) ∧ Aside0 (kq ≤ kj1) ∧ Drawn0 w w')
              case atStart => exact ⟨(0), (0), (by first | rfl | (simp; done) | (simp [*]; done)), (by first | rfl | (simp; done) | (simp [*]; done)), H', ⟨Nat.le_refl _⟩, by repeat (first | exact Drawn0.refl _ | apply Drawn0.step)⟩
              case round =>
                clear H'
                try clear c1
                try clear p2
                try clear q2
                try clear hx2
                try clear qi2
                try clear c3
                try clear c3b0
                try clear c3b1
                try clear c3b2
                try clear c4
                try clear c4b0
                try clear c4b1
                try clear c5
                try clear c5b0
                try clear c6
                try clear c6b0
                try clear p6
                try clear c7
                try clear c7b0
                try clear c8
                try clear c8b0
                try clear c8b1
                try clear c9
                try clear c10
                try clear c10b0
                try clear c10b1
                try clear c11
                try clear c11b0
                try clear c11b1
                try clear c12
                try clear c12b0
                try clear c12b1
                try clear hx205_0
                try clear hx206_0
                try clear hx207_0
                try clear hx208_0
                try clear hx209_0
                try clear p2
                try clear p205
                try clear p206
                try clear p207
                try clear p208
                try clear p209
                try clear p6
                try clear q2
                try clear q205
                try clear q206
                try clear q207
                try clear q208
                try clear q209
                obtain ⟨x6_2, x48_2, rfl, rfl, HA, HK2, ⟨m2, rfl⟩⟩ := hrel
                cases gk with
                | zero => exact absurd HA.out (by simp [wire_GetNum.l0])
                | succ k2 =>
                  have H := HA.out
                  clear HA
                  simp only [wire_GetNum.l0] at H
                  by_cases c14 : x48_2 < (Y13.length : Int)
                  · rw [if_pos c14] at H
                    have c14b0 : decide (x48_2 < (Y13.length : Int)) = true := decide_eq_true c14
                    clear c14
                    by_cases c15 : 0 ≤ x48_2
                    · rw [if_pos c15] at H
                      have c15b0 : decide (0 ≤ x48_2) = true := decide_eq_true c15
                      clear c15
                      by_cases c16 : x48_2 < (Y13.length : Int)
                      · rw [if_pos c16] at H
                        have c16b0 : decide (x48_2 < (Y13.length : Int)) = true := decide_eq_true c16
                        clear c16
                        have H' := Aside0.mk H
                        clear H
                        have p211 : 0 ≤ (x48_2 : Int) := of_decide_eq_true (by first | (with_reducible assumption) | assumption)
                        have q211 : x48_2 < (Y13.length : Int) := of_decide_eq_true (by first | (with_reducible assumption) | assumption)
                        obtain ⟨ad211, e211, hx211_0⟩ := Kd.at_int HR210.out x48_2 p211 q211
                        cases e211
                        replace p211 := eq_true p211
                        replace q211 := eq_true q211
                        go_wp2
                        go_roundg k2
                        case measure => have := HJ1.out; have := HK2.out; omega
                        case rel => exact ⟨(Go.bits .or .u64 (IntKind.u64.wrap (x6_2 * 256)) (IntKind.u64.wrap (rd Y13 x48_2))), (wrap64 (x48_2 + 1)), (by first | rfl | (simp; done) | (simp [*]; done)), (by first | rfl | (simp; done) | (simp [*]; done)), H', ⟨by have := HJ1.out; have := HK2.out; omega⟩, by repeat (first | exact Drawn0.refl _ | apply Drawn0.step)⟩
                      · rw [if_neg c16] at H
                        exact absurd H (by simp)
                    · rw [if_neg c15] at H
                      exact absurd H (by simp)
                  · rw [if_neg c14] at H
                    have c14b0 : decide (x48_2 < (Y13.length : Int)) = false := decide_eq_false c14
                    clear c14
                    simp only [Option.some.injEq, Prod.mk.injEq] at H
                    obtain ⟨rfl, rfl, rfl⟩ := H
                    go_wp2
                    go_ret3
                    exact ⟨by first | rfl | (simp; done) | (simp [*]; done), by repeat (first | exact Drawn0.refl _ | apply Drawn0.step)⟩
            · rw [if_neg c12] at H
              exact absurd H (by simp)
          · rw [if_neg c11] at H
            exact absurd H (by simp)
        · rw [if_neg c10] at H
          exact absurd H (by simp)

end Go.Proofs.Ytgobbmhkmnaegaa.PWire
