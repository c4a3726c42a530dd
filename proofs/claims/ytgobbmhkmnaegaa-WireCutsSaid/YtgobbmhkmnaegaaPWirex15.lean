-- Written by a program of this session (a patched printer) out of the translation. Not trusted: Lean checks it.
import Derived.Test.YtgobbmhkmnaegaaPWirex0
import Derived.Test.YtgobbmhkmnaegaaPWirex1
import Derived.Test.YtgobbmhkmnaegaaPWirex2
import Derived.Test.YtgobbmhkmnaegaaPWirex10
import Derived.Test.YtgobbmhkmnaegaaPWirex11
namespace Go.Proofs.Ytgobbmhkmnaegaa.PWire
open Go.RowKit Go.Proofs.YtgobbmhkmnaegaaW.PrintWords Go.Proofs.YtgobbmhkmnaegaaW.PrintLast Go.Proofs.YtgobbmhkmnaegaaW.PrintMore
attribute [local go_sem] max2_int min2_int max_two min_two max_three min_three max_four min_four   -- for this text's walks alone
set_option linter.unusedVariables false
set_option linter.unusedSimpArgs false

/-! ### hucksterlaw02_WireCuts: function 8 -/
mutual
def hucksterlaw02_WireCuts.j0 : Nat → Int → List Int → List Int → Bool → Option (Bool)
  | 0, _, _, _, _ => none
  | k + 1, x0, x1, x2, x32 => if x32 = true then ((hucksterlaw02_awake.f k).bind fun t509 => (some t509)) else ((wire_Record.f k x0 x1).bind fun bt510 => ((some (([] : List Int) : List Int)).bind fun y514 => (if y514.length + bt510.1.length < 140737488355328 then ((some (y514 ++ bt510.1 : List Int)).bind fun y517 => (if y517.length + x2.length < 140737488355328 then ((wire_GetRecord.f k (y517 ++ x2)).bind fun bt523 => (if bt510.2 = 0 then (if bt523.2.2.2 = 0 then (if bt523.1 = x0 then (if bt523.2.2.1 = (bt510.1.length : Int) then ((hucksterref02_Bytes.f k bt523.2.1 x1).bind fun t529 => (hucksterlaw02_WireCuts.j1 k bt510.1 (!t529))) else (hucksterlaw02_WireCuts.j1 k bt510.1 true)) else (hucksterlaw02_WireCuts.j1 k bt510.1 true)) else (hucksterlaw02_WireCuts.j1 k bt510.1 true)) else (hucksterlaw02_WireCuts.j1 k bt510.1 true))) else (none))) else (none))))
def hucksterlaw02_WireCuts.j1 : Nat → List Int → Bool → Option (Bool)
  | 0, _, _ => none
  | k + 1, x7, x73 => if x73 = true then (some false) else (hucksterlaw02_WireCuts.l0 k x7 0)
def hucksterlaw02_WireCuts.l0 : Nat → List Int → Int → Option (Bool)
  | 0, _, _ => none
  | k + 1, x7, x13 => if x13 < (x7.length : Int) then (hucksterlaw02_WireCuts.j3 k x7 x13 (decide (x13 < 60))) else (hucksterlaw02_WireCuts.j3 k x7 x13 false)
def hucksterlaw02_WireCuts.j3 : Nat → List Int → Int → Bool → Option (Bool)
  | 0, _, _, _ => none
  | k + 1, x7, x13, x81 => if x81 = true then (if x13 ≥ 30 then (hucksterlaw02_WireCuts.j4 k x7 x13 (wrap64 ((wrap64 ((x7.length : Int) - 1)) - (wrap64 (x13 - 30))))) else (hucksterlaw02_WireCuts.j4 k x7 x13 x13)) else ((hucksterlaw02_awake.f k).bind fun t530 => (some t530))
def hucksterlaw02_WireCuts.j4 : Nat → List Int → Int → Int → Option (Bool)
  | 0, _, _, _ => none
  | k + 1, x7, x13, x14 => if x14 < 0 then (hucksterlaw02_WireCuts.l0 k x7 (wrap64 (x13 + 1))) else (if 0 ≤ x14 then (if x14 ≤ (x7.length : Int) then ((wire_GetRecord.f k (x7.take (x14 : Int).toNat)).bind fun bt535 => (if bt535.2.2.2 = 3 then (if bt535.2.2.1 = 0 then (hucksterlaw02_WireCuts.l0 k x7 (wrap64 (x13 + 1))) else (some false)) else (some false))) else (none)) else (none))
end
def hucksterlaw02_WireCuts.f (k : Nat) (a0 : Int) (l1 : List Int) (l2 : List Int) : Option (Bool) := if (l1.length : Int) > 2000 then (hucksterlaw02_WireCuts.j0 k a0 l1 l2 true) else (if (l2.length : Int) > 500 then (hucksterlaw02_WireCuts.j0 k a0 l1 l2 true) else ((hucksterref02_May.f a0 l1).bind fun t508 => (hucksterlaw02_WireCuts.j0 k a0 l1 l2 (!t508))))
theorem hucksterlaw02_WireCuts.mono_l : ∀ k, (∀ y0 y1 y2 y3, LeO (hucksterlaw02_WireCuts.j0 k y0 y1 y2 y3) (hucksterlaw02_WireCuts.j0 (k + 1) y0 y1 y2 y3)) ∧ (∀ y0 y1, LeO (hucksterlaw02_WireCuts.j1 k y0 y1) (hucksterlaw02_WireCuts.j1 (k + 1) y0 y1)) ∧ (∀ y0 y1, LeO (hucksterlaw02_WireCuts.l0 k y0 y1) (hucksterlaw02_WireCuts.l0 (k + 1) y0 y1)) ∧ (∀ y0 y1 y2, LeO (hucksterlaw02_WireCuts.j3 k y0 y1 y2) (hucksterlaw02_WireCuts.j3 (k + 1) y0 y1 y2)) ∧ (∀ y0 y1 y2, LeO (hucksterlaw02_WireCuts.j4 k y0 y1 y2) (hucksterlaw02_WireCuts.j4 (k + 1) y0 y1 y2))
  | 0 => ⟨fun _ _ _ _ r h => by simp [hucksterlaw02_WireCuts.j0] at h, fun _ _ r h => by simp [hucksterlaw02_WireCuts.j1] at h, fun _ _ r h => by simp [hucksterlaw02_WireCuts.l0] at h, fun _ _ _ r h => by simp [hucksterlaw02_WireCuts.j3] at h, fun _ _ _ r h => by simp [hucksterlaw02_WireCuts.j4] at h⟩
  | k + 1 => by
    obtain ⟨ih0, ih1, ih2, ih3, ih4⟩ := hucksterlaw02_WireCuts.mono_l k
    refine ⟨?_, ?_, ?_, ?_, ?_⟩
    · intro y0 y1 y2 y3
      unfold hucksterlaw02_WireCuts.j0
      repeat' first
      | (with_reducible exact ih0 _ _ _ _)
      | (with_reducible exact ih1 _ _)
      | (with_reducible exact ih2 _ _)
      | (with_reducible exact ih3 _ _ _)
      | (with_reducible exact ih4 _ _ _)
      | (with_reducible exact hucksterlaw02_awake.mono _)
      | (with_reducible exact hucksterref02_Bytes.mono _ _ _)
      | (with_reducible exact wire_GetRecord.mono _ _)
      | (with_reducible exact wire_Record.mono _ _ _)
      | (with_reducible exact LeO.refl _)
      | (with_reducible exact LeO.none _)
      | (with_reducible refine LeO.ite ?_ ?_)
      | (with_reducible refine LeO.bind ?_ (fun _ => ?_))
      | exact ih0 _ _ _ _
      | exact ih1 _ _
      | exact ih2 _ _
      | exact ih3 _ _ _
      | exact ih4 _ _ _
      | exact hucksterlaw02_awake.mono _
      | exact hucksterref02_Bytes.mono _ _ _
      | exact wire_GetRecord.mono _ _
      | exact wire_Record.mono _ _ _
      | exact LeO.none _
      | refine LeO.ite ?_ ?_
      | refine LeO.bind ?_ (fun _ => ?_)
    · intro y0 y1
      unfold hucksterlaw02_WireCuts.j1
      repeat' first
      | (with_reducible exact ih0 _ _ _ _)
      | (with_reducible exact ih1 _ _)
      | (with_reducible exact ih2 _ _)
      | (with_reducible exact ih3 _ _ _)
      | (with_reducible exact ih4 _ _ _)
      | (with_reducible exact hucksterlaw02_awake.mono _)
      | (with_reducible exact hucksterref02_Bytes.mono _ _ _)
      | (with_reducible exact wire_GetRecord.mono _ _)
      | (with_reducible exact wire_Record.mono _ _ _)
      | (with_reducible exact LeO.refl _)
      | (with_reducible exact LeO.none _)
      | (with_reducible refine LeO.ite ?_ ?_)
      | (with_reducible refine LeO.bind ?_ (fun _ => ?_))
      | exact ih0 _ _ _ _
      | exact ih1 _ _
      | exact ih2 _ _
      | exact ih3 _ _ _
      | exact ih4 _ _ _
      | exact hucksterlaw02_awake.mono _
      | exact hucksterref02_Bytes.mono _ _ _
      | exact wire_GetRecord.mono _ _
      | exact wire_Record.mono _ _ _
      | exact LeO.none _
      | refine LeO.ite ?_ ?_
      | refine LeO.bind ?_ (fun _ => ?_)
    · intro y0 y1
      unfold hucksterlaw02_WireCuts.l0
      repeat' first
      | (with_reducible exact ih0 _ _ _ _)
      | (with_reducible exact ih1 _ _)
      | (with_reducible exact ih2 _ _)
      | (with_reducible exact ih3 _ _ _)
      | (with_reducible exact ih4 _ _ _)
      | (with_reducible exact hucksterlaw02_awake.mono _)
      | (with_reducible exact hucksterref02_Bytes.mono _ _ _)
      | (with_reducible exact wire_GetRecord.mono _ _)
      | (with_reducible exact wire_Record.mono _ _ _)
      | (with_reducible exact LeO.refl _)
      | (with_reducible exact LeO.none _)
      | (with_reducible refine LeO.ite ?_ ?_)
      | (with_reducible refine LeO.bind ?_ (fun _ => ?_))
      | exact ih0 _ _ _ _
      | exact ih1 _ _
      | exact ih2 _ _
      | exact ih3 _ _ _
      | exact ih4 _ _ _
      | exact hucksterlaw02_awake.mono _
      | exact hucksterref02_Bytes.mono _ _ _
      | exact wire_GetRecord.mono _ _
      | exact wire_Record.mono _ _ _
      | exact LeO.none _
      | refine LeO.ite ?_ ?_
      | refine LeO.bind ?_ (fun _ => ?_)
    · intro y0 y1 y2
      unfold hucksterlaw02_WireCuts.j3
      repeat' first
      | (with_reducible exact ih0 _ _ _ _)
      | (with_reducible exact ih1 _ _)
      | (with_reducible exact ih2 _ _)
      | (with_reducible exact ih3 _ _ _)
      | (with_reducible exact ih4 _ _ _)
      | (with_reducible exact hucksterlaw02_awake.mono _)
      | (with_reducible exact hucksterref02_Bytes.mono _ _ _)
      | (with_reducible exact wire_GetRecord.mono _ _)
      | (with_reducible exact wire_Record.mono _ _ _)
      | (with_reducible exact LeO.refl _)
      | (with_reducible exact LeO.none _)
      | (with_reducible refine LeO.ite ?_ ?_)
      | (with_reducible refine LeO.bind ?_ (fun _ => ?_))
      | exact ih0 _ _ _ _
      | exact ih1 _ _
      | exact ih2 _ _
      | exact ih3 _ _ _
      | exact ih4 _ _ _
      | exact hucksterlaw02_awake.mono _
      | exact hucksterref02_Bytes.mono _ _ _
      | exact wire_GetRecord.mono _ _
      | exact wire_Record.mono _ _ _
      | exact LeO.none _
      | refine LeO.ite ?_ ?_
      | refine LeO.bind ?_ (fun _ => ?_)
    · intro y0 y1 y2
      unfold hucksterlaw02_WireCuts.j4
      repeat' first
      | (with_reducible exact ih0 _ _ _ _)
      | (with_reducible exact ih1 _ _)
      | (with_reducible exact ih2 _ _)
      | (with_reducible exact ih3 _ _ _)
      | (with_reducible exact ih4 _ _ _)
      | (with_reducible exact hucksterlaw02_awake.mono _)
      | (with_reducible exact hucksterref02_Bytes.mono _ _ _)
      | (with_reducible exact wire_GetRecord.mono _ _)
      | (with_reducible exact wire_Record.mono _ _ _)
      | (with_reducible exact LeO.refl _)
      | (with_reducible exact LeO.none _)
      | (with_reducible refine LeO.ite ?_ ?_)
      | (with_reducible refine LeO.bind ?_ (fun _ => ?_))
      | exact ih0 _ _ _ _
      | exact ih1 _ _
      | exact ih2 _ _
      | exact ih3 _ _ _
      | exact ih4 _ _ _
      | exact hucksterlaw02_awake.mono _
      | exact hucksterref02_Bytes.mono _ _ _
      | exact wire_GetRecord.mono _ _
      | exact wire_Record.mono _ _ _
      | exact LeO.none _
      | refine LeO.ite ?_ ?_
      | refine LeO.bind ?_ (fun _ => ?_)
theorem hucksterlaw02_WireCuts.mono : ∀ a0 a1 a2 k, LeO (hucksterlaw02_WireCuts.f k a0 a1 a2) (hucksterlaw02_WireCuts.f (k + 1) a0 a1 a2) := by
  intro a0 a1 a2 k
  obtain ⟨ih0, ih1, ih2, ih3, ih4⟩ := hucksterlaw02_WireCuts.mono_l k
  unfold hucksterlaw02_WireCuts.f
  repeat' first
      | (with_reducible exact ih0 _ _ _ _)
      | (with_reducible exact ih1 _ _)
      | (with_reducible exact ih2 _ _)
      | (with_reducible exact ih3 _ _ _)
      | (with_reducible exact ih4 _ _ _)
      | (with_reducible exact hucksterlaw02_awake.mono _)
      | (with_reducible exact hucksterref02_Bytes.mono _ _ _)
      | (with_reducible exact wire_GetRecord.mono _ _)
      | (with_reducible exact wire_Record.mono _ _ _)
      | (with_reducible exact LeO.refl _)
      | (with_reducible exact LeO.none _)
      | (with_reducible refine LeO.ite ?_ ?_)
      | (with_reducible refine LeO.bind ?_ (fun _ => ?_))
      | exact ih0 _ _ _ _
      | exact ih1 _ _
      | exact ih2 _ _
      | exact ih3 _ _ _
      | exact ih4 _ _ _
      | exact hucksterlaw02_awake.mono _
      | exact hucksterref02_Bytes.mono _ _ _
      | exact wire_GetRecord.mono _ _
      | exact wire_Record.mono _ _ _
      | exact LeO.none _
      | refine LeO.ite ?_ ?_
      | refine LeO.bind ?_ (fun _ => ?_)
set_option maxHeartbeats 8000000 in
set_option maxRecDepth 100000 in
theorem hucksterlaw02_WireCuts.calls (k : Nat) (a0 : Int) (A1 : Option Addr) (c1 : Nat) (l1 : List Int) (A2 : Option Addr) (c2 : Nat) (l2 : List Int) (r : Bool) (w : World) (hr1 : Kd.C (Kd.int .u8) w A1 l1.length l1) (hc1 : l1.length ≤ c1) (hr2 : Kd.C (Kd.int .u8) w A2 l2.length l2) (hc2 : l2.length ≤ c2) (h : hucksterlaw02_WireCuts.f k a0 l1 l2 = some r) :
    Calls Try.prog 8 #[.int .i64 a0, .slice A1 l1.length c1, .slice A2 l2.length c2] w fun e w' => e = .returned (.bool r) ∧ Below w.heap.size w w' := by
  have HR1 := Aside0.mk hr1
  have HC1 := Aside0.mk hc1
  clear hr1 hc1
  have HR2 := Aside0.mk hr2
  have HC2 := Aside0.mk hc2
  clear hr2 hc2
  have HB := Aside0.mk (Below.refl w.heap.size w)
  have H : (if (l1.length : Int) > 2000 then (hucksterlaw02_WireCuts.j0 k a0 l1 l2 true) else (if (l2.length : Int) > 500 then (hucksterlaw02_WireCuts.j0 k a0 l1 l2 true) else ((hucksterref02_May.f a0 l1).bind fun t508 => (hucksterlaw02_WireCuts.j0 k a0 l1 l2 (!t508))))) = some r := h
  clear h
  have HC4 := Aside0.mk H
  clear H
  go_enter Try.func8, Try.ntmps8
  go_upto_region 1 with (fail)
  go_cut [32] (fun v32 wc => ∃ (kq : Nat) (x32_3 : Bool), v32 = .bool x32_3 ∧ Aside0 (hucksterlaw02_WireCuts.j0 kq a0 l1 l2 x32_3 = some r) ∧ Aside0 (kq ≤ k) ∧ Aside0 (Below w.heap.size w wc))
  case first =>
    have H := HC4.out
    clear HC4
    by_cases c5 : (l1.length : Int) > 2000
    · rw [if_pos c5] at H
      have c5b0 : decide (2000 < (l1.length : Int)) = true := decide_eq_true c5
      have c5b1 : decide (2000 < l1.length) = true := decide_eq_true (by omega)
      clear c5
      (first | rw [c5b0] | (simp only [i64_w, i32_w]; rw [c5b0]) | skip)
      have H' := Aside0.mk H
      clear H
      go_wp2
      go_meet
      case rel => exact ⟨_, (true), (by first | rfl | (simp; done) | (simp [*]; done)), H', ⟨by first | omega | exact Nat.le_refl _⟩, ⟨by repeat (first | (with_reducible first | exact HB.out | apply below_alloc | apply pw_below_drewN | apply below_drew1) | exact HB.out)⟩⟩
    · rw [if_neg c5] at H
      have c5b0 : decide (2000 < (l1.length : Int)) = false := decide_eq_false c5
      have c5b1 : decide (2000 < l1.length) = false := decide_eq_false (by omega)
      clear c5
      (first | rw [c5b0] | (simp only [i64_w, i32_w]; rw [c5b0]) | skip)
      by_cases c6 : (l2.length : Int) > 500
      · rw [if_pos c6] at H
        have c6b0 : decide (500 < (l2.length : Int)) = true := decide_eq_true c6
        have c6b1 : decide (500 < l2.length) = true := decide_eq_true (by omega)
        clear c6
        have H' := Aside0.mk H
        clear H
        go_wp2
        go_meet
        case rel => exact ⟨_, (true), (by first | rfl | (simp; done) | (simp [*]; done)), H', ⟨by first | omega | exact Nat.le_refl _⟩, ⟨by repeat (first | (with_reducible first | exact HB.out | apply below_alloc | apply pw_below_drewN | apply below_drew1) | exact HB.out)⟩⟩
      · rw [if_neg c6] at H
        have c6b0 : decide (500 < (l2.length : Int)) = false := decide_eq_false c6
        have c6b1 : decide (500 < l2.length) = false := decide_eq_false (by omega)
        clear c6
        replace H := Option.bind_eq_some_iff.mp H
        obtain ⟨t508, A70, H⟩ := H
        replace H : (hucksterlaw02_WireCuts.j0 k a0 l1 l2 (!t508)) = some r := H
        have A7 := Aside0.mk A70
        clear A70
        have H' := Aside0.mk H
        clear H
        go_wp2_with (first | (go_at_call 26; (with_reducible refine (hucksterref02_May.calls a0 _ _ l1 t508 _ ?side1 ?side2 A7.out).mono ?_); (case side1 => repeat (first | exact (Kd.C_below HR1.out HB.out) | (with_reducible refine Kd.C_alloc ?_ _) | (with_reducible refine Kd.C_drewN ?_ _) | (with_reducible refine Kd.C_drew ?_))); (case side2 => exact HC1.out); rintro e w' ⟨rfl, ⟨nd, rfl⟩⟩))
        go_meet
        case rel => exact ⟨_, (!t508), (by first | rfl | (simp; done) | (simp [*]; done)), H', ⟨by first | omega | exact Nat.le_refl _⟩, ⟨by repeat (first | (with_reducible first | exact HB.out | apply below_alloc | apply pw_below_drewN | apply below_drew1) | exact HB.out)⟩⟩
  case rest =>
    clear HC4
    try clear c1
    try clear c2
    try clear p2
    try clear c5
    try clear c5b0
    try clear c5b1
    try clear c6
    try clear c6b0
    try clear c6b1
    obtain ⟨kq, x32_3, rfl, HA, HJ3, HB⟩ := hcut
    cases kq with
    | zero => exact absurd HA.out (by simp [hucksterlaw02_WireCuts.j0])
    | succ kj3 =>
      have H := HA.out
      clear HA
      simp only [hucksterlaw02_WireCuts.j0] at H
      by_cases c8 : x32_3 = true
      · subst c8
        have H1 : ((hucksterlaw02_awake.f kj3).bind fun t509 => (some t509)) = some r := by rw [if_pos rfl] at H; exact H
        clear H
        have H := H1
        clear H1
        replace H := Option.bind_eq_some_iff.mp H
        obtain ⟨t509, A90, H⟩ := H
        replace H : (some t509) = some r := H
        have A9 := Aside0.mk A90
        clear A90
        obtain rfl := Option.some.inj H
        go_wp2_with (first | ((with_reducible refine gate_callee (f := 10) rfl ?_); refine goesL_ (some 33) rfl rfl Try.func10 (by kernel_rfl) rfl #[] rfl (by (try simp only [List.map_toArray, List.map_cons, List.map_nil]); first | done | rfl | (simp only [List.length_drop, List.length_take]; rfl)) ?_; (with_reducible refine (hucksterlaw02_awake.calls kj3  t509 _ A9.out).mono ?_); rintro e w10 ⟨rfl, hb⟩; refine ⟨_, rfl, ?_⟩; have n0_ := Aside0.mk (below_step (by repeat (first | (with_reducible first | exact HB.out | apply below_alloc | apply pw_below_drewN | apply below_drew1) | exact HB.out)) hb); clear HB; have HB := n0_; clear n0_; (try clear hb); (try clear hb2); (try clear hk); (try clear hi)))
        go_ret
        exact ⟨by first | rfl | (simp [errW_none, errW_some] <;> rfl) | (simp [*, errW_none, errW_some] <;> rfl), by repeat (first | (with_reducible first | exact HB.out | apply below_alloc | apply pw_below_drewN | apply below_drew1) | exact HB.out)⟩
      · replace c8 := Bool.eq_false_iff.mpr c8
        subst c8
        have H1 : ((wire_Record.f kj3 a0 l1).bind fun bt510 => ((some (([] : List Int) : List Int)).bind fun y514 => (if y514.length + bt510.1.length < 140737488355328 then ((some (y514 ++ bt510.1 : List Int)).bind fun y517 => (if y517.length + l2.length < 140737488355328 then ((wire_GetRecord.f kj3 (y517 ++ l2)).bind fun bt523 => (if bt510.2 = 0 then (if bt523.2.2.2 = 0 then (if bt523.1 = a0 then (if bt523.2.2.1 = (bt510.1.length : Int) then ((hucksterref02_Bytes.f kj3 bt523.2.1 l1).bind fun t529 => (hucksterlaw02_WireCuts.j1 kj3 bt510.1 (!t529))) else (hucksterlaw02_WireCuts.j1 kj3 bt510.1 true)) else (hucksterlaw02_WireCuts.j1 kj3 bt510.1 true)) else (hucksterlaw02_WireCuts.j1 kj3 bt510.1 true)) else (hucksterlaw02_WireCuts.j1 kj3 bt510.1 true))) else (none))) else (none)))) = some r := by rw [if_neg (show ¬ (false = true) by decide)] at H; exact H
        clear H
        have H := H1
        clear H1
        replace H := Option.bind_eq_some_iff.mp H
        obtain ⟨⟨t510, t511⟩, A110, H⟩ := H
        replace H : ((some (([] : List Int) : List Int)).bind fun y514 => (if y514.length + t510.length < 140737488355328 then ((some (y514 ++ t510 : List Int)).bind fun y517 => (if y517.length + l2.length < 140737488355328 then ((wire_GetRecord.f kj3 (y517 ++ l2)).bind fun bt523 => (if t511 = 0 then (if bt523.2.2.2 = 0 then (if bt523.1 = a0 then (if bt523.2.2.1 = (t510.length : Int) then ((hucksterref02_Bytes.f kj3 bt523.2.1 l1).bind fun t529 => (hucksterlaw02_WireCuts.j1 kj3 t510 (!t529))) else (hucksterlaw02_WireCuts.j1 kj3 t510 true)) else (hucksterlaw02_WireCuts.j1 kj3 t510 true)) else (hucksterlaw02_WireCuts.j1 kj3 t510 true)) else (hucksterlaw02_WireCuts.j1 kj3 t510 true))) else (none))) else (none))) = some r := H
        have A11 := Aside0.mk A110
        clear A110
        obtain ⟨y514, hy514⟩ : ∃ y_ : List Int, y_ = (([] : List Int)) := ⟨_, rfl⟩
        replace H : (if y514.length + t510.length < 140737488355328 then ((some (y514 ++ t510 : List Int)).bind fun y517 => (if y517.length + l2.length < 140737488355328 then ((wire_GetRecord.f kj3 (y517 ++ l2)).bind fun bt523 => (if t511 = 0 then (if bt523.2.2.2 = 0 then (if bt523.1 = a0 then (if bt523.2.2.1 = (t510.length : Int) then ((hucksterref02_Bytes.f kj3 bt523.2.1 l1).bind fun t529 => (hucksterlaw02_WireCuts.j1 kj3 t510 (!t529))) else (hucksterlaw02_WireCuts.j1 kj3 t510 true)) else (hucksterlaw02_WireCuts.j1 kj3 t510 true)) else (hucksterlaw02_WireCuts.j1 kj3 t510 true)) else (hucksterlaw02_WireCuts.j1 kj3 t510 true))) else (none))) else (none)) = some r := by first | (rw [hy514]; with_reducible exact H) | (have H2_ := (Option.bind_some _ _).symm.trans H; rw [hy514]; with_reducible exact H2_) | (have H2_ := (Option.bind_some _ _).symm.trans H; with_reducible exact H2_) | with_reducible exact H | (rw [hy514]; exact H) | exact H
        have Ny514 := Aside0.mk hy514
        clear hy514
        by_cases c12 : y514.length + t510.length < 140737488355328
        · rw [if_pos c12] at H
          have LMc12 := Aside0.mk c12
          clear c12
          obtain ⟨y517, hy517⟩ : ∃ y_ : List Int, y_ = (y514 ++ t510) := ⟨_, rfl⟩
          replace H : (if y517.length + l2.length < 140737488355328 then ((wire_GetRecord.f kj3 (y517 ++ l2)).bind fun bt523 => (if t511 = 0 then (if bt523.2.2.2 = 0 then (if bt523.1 = a0 then (if bt523.2.2.1 = (t510.length : Int) then ((hucksterref02_Bytes.f kj3 bt523.2.1 l1).bind fun t529 => (hucksterlaw02_WireCuts.j1 kj3 t510 (!t529))) else (hucksterlaw02_WireCuts.j1 kj3 t510 true)) else (hucksterlaw02_WireCuts.j1 kj3 t510 true)) else (hucksterlaw02_WireCuts.j1 kj3 t510 true)) else (hucksterlaw02_WireCuts.j1 kj3 t510 true))) else (none)) = some r := by first | (rw [hy517]; with_reducible exact H) | (have H2_ := (Option.bind_some _ _).symm.trans H; rw [hy517]; with_reducible exact H2_) | (have H2_ := (Option.bind_some _ _).symm.trans H; with_reducible exact H2_) | with_reducible exact H | (rw [hy517]; exact H) | exact H
          have Ny517 := Aside0.mk hy517
          clear hy517
          by_cases c13 : y517.length + l2.length < 140737488355328
          · rw [if_pos c13] at H
            have LMc13 := Aside0.mk c13
            clear c13
            obtain ⟨y520, hy520⟩ : ∃ y_ : List Int, y_ = (y517 ++ l2) := ⟨_, rfl⟩
            replace H : ((wire_GetRecord.f kj3 y520).bind fun bt523 => (if t511 = 0 then (if bt523.2.2.2 = 0 then (if bt523.1 = a0 then (if bt523.2.2.1 = (t510.length : Int) then ((hucksterref02_Bytes.f kj3 bt523.2.1 l1).bind fun t529 => (hucksterlaw02_WireCuts.j1 kj3 t510 (!t529))) else (hucksterlaw02_WireCuts.j1 kj3 t510 true)) else (hucksterlaw02_WireCuts.j1 kj3 t510 true)) else (hucksterlaw02_WireCuts.j1 kj3 t510 true)) else (hucksterlaw02_WireCuts.j1 kj3 t510 true))) = some r := by first | (rw [hy520]; with_reducible exact H) | (have H2_ := (Option.bind_some _ _).symm.trans H; rw [hy520]; with_reducible exact H2_) | (have H2_ := (Option.bind_some _ _).symm.trans H; with_reducible exact H2_) | with_reducible exact H | (rw [hy520]; exact H) | exact H
            have Ny520 := Aside0.mk hy520
            clear hy520
            replace H := Option.bind_eq_some_iff.mp H
            obtain ⟨⟨t523, t524, t527, t528⟩, A140, H⟩ := H
            replace H : (if t511 = 0 then (if t528 = 0 then (if t523 = a0 then (if t527 = (t510.length : Int) then ((hucksterref02_Bytes.f kj3 t524 l1).bind fun t529 => (hucksterlaw02_WireCuts.j1 kj3 t510 (!t529))) else (hucksterlaw02_WireCuts.j1 kj3 t510 true)) else (hucksterlaw02_WireCuts.j1 kj3 t510 true)) else (hucksterlaw02_WireCuts.j1 kj3 t510 true)) else (hucksterlaw02_WireCuts.j1 kj3 t510 true)) = some r := H
            have A14 := Aside0.mk A140
            clear A140
            have HC15 := Aside0.mk H
            clear H
            go_upto_region 5 with (first | ((with_reducible refine gate_callee (f := 25) rfl ?_); refine goesL_ (some 37) rfl rfl Try.func25 (by kernel_rfl) rfl #[.int .i64 a0, .slice A1 l1.length c1] rfl (by (try simp only [List.map_toArray, List.map_cons, List.map_nil]); first | done | rfl | (simp only [List.length_drop, List.length_take]; rfl)) ?_; (with_reducible refine (wire_Record.calls kj3 a0 _ _ l1 t510 t511 _ ?side1 ?side2 A11.out).mono ?_); (case side1 => repeat (first | exact (Kd.C_below HR1.out HB.out) | (with_reducible refine Kd.C_alloc ?_ _) | (with_reducible refine Kd.C_drewN ?_ _) | (with_reducible refine Kd.C_drew ?_))); (case side2 => exact HC1.out); rintro e w16 ⟨v512, rfl, ho0, hb⟩; refine ⟨_, rfl, ?_⟩; have n0_ := Aside0.mk (Kd.R_lower ho0 (below_size (by repeat (first | (with_reducible first | exact HB.out | apply below_alloc | apply pw_below_drewN | apply below_drew1) | exact HB.out)))); have n1_ := Aside0.mk (below_step (by repeat (first | (with_reducible first | exact HB.out | apply below_alloc | apply pw_below_drewN | apply below_drew1) | exact HB.out)) hb); clear HB; have HO513 := n0_; have HB := n1_; clear n0_ n1_; (try clear hb); (try clear hb2); (try clear hk); (try clear hi); (try clear ho0)) | ((with_reducible refine gate_dst (N := 41) rfl ?_); (try (refine gate_guard (by rfl) ?_; dsimp only)); refine Kd.R_lit (Kd.int .u8) _ 5 ?hg (N := 41) ?hd (xs := ([] : List Int)) (inner := []) (ok := fun _ => True) (okp := fun _ => True) ?hr ?hp (fun _ hk => hk) trivial (Below.refl _ _) (Nat.le_refl _) (by simp) ?_; (case hd => rfl); (case hg => rfl); (case hr => first | (go_simp; done) | (go_simp; rfl)); (case hp => exact (Reps.none _ _)); intro v515 w17 ho18 hb hg_ hnew_; clear hg_ hnew_; (first | rw [← Ny514.out] at ho18 | (simp only [Int.reduceToNat] at ho18; rw [← Ny514.out] at ho18)); have n0_ := Aside0.mk (Kd.R_elder' (by (with_reducible repeat (first | apply Kd.R_alloc | apply Kd.R_drewN | apply Kd.R_drew)); exact HO513.out) (Kd.R_base ho18) hb); have n1_ := Aside0.mk (Kd.R_lower (Kd.R_new' ho18 (Kd.R_lt (by (with_reducible repeat (first | apply Kd.R_alloc | apply Kd.R_drewN | apply Kd.R_drew)); exact HO513.out))) (below_size (by repeat (first | (with_reducible first | exact HB.out | apply below_alloc | apply pw_below_drewN | apply below_drew1) | exact HB.out)))); have n2_ := Aside0.mk (below_step (by repeat (first | (with_reducible first | exact HB.out | apply below_alloc | apply pw_below_drewN | apply below_drew1) | exact HB.out)) hb); clear HO513; clear HB; have HO513 := n0_; have HO516 := n1_; have HB := n2_; clear n0_ n1_ n2_; clear hb ho18; obtain ⟨Ao20, co20, eo20⟩ := Kd.R_slice HO513.out; subst eo20) | ((with_reducible refine gate_builtin (b := .append) (xs := #[.tmp 41, .tmp 42]) rfl ?_); (try (refine gate_guard (by rfl) ?_; dsimp only)); at_builtin; refine Kd.R_append_rows (Kd.int .u8) (w0 := w) w.heap.size rfl (.tmp 41) (.tmp 42) 27 5 (.int .u8 0) 1 rfl Try.underlying27 info5 rfl (by decide) (by omega) v515 y514 t510 _ _ _ (fun k_ => some k_ ≠ (.slice Ao20 t510.length co20 : Value).ownBlock) (fun _ => False) rfl rfl ?aO ?aR (fun _ _ h => h) (fun _ h => h.elim) ?aF ?aB ?aS ?aL ?_; (case aR => repeat (first | exact (Kd.R_reads' HO513.out).2.2 | (with_reducible refine Kd.C_alloc ?_ _) | (with_reducible refine Kd.C_drewN ?_ _) | (with_reducible refine Kd.C_drew ?_))); (case aB => exact (by repeat (first | (with_reducible first | exact HB.out | apply below_alloc | apply pw_below_drewN | apply below_drew1) | exact HB.out))); (case aF => exact (fun k_ hk => Kd.fresh' (Kd.R_lt (by (with_reducible repeat (first | apply Kd.R_alloc | apply Kd.R_drewN | apply Kd.R_drew)); exact HO513.out)) k_ hk)); (case aO => exact (by (with_reducible repeat (first | apply Kd.R_alloc | apply Kd.R_drewN | apply Kd.R_drew)); exact Kd.R_mono HO516.out (fun _ hk => hk.2))); (case aS => exact (below_size (by repeat (first | (with_reducible first | exact HB.out | apply below_alloc | apply pw_below_drewN | apply below_drew1) | exact HB.out)))); (case aL => have := LMc12.out; omega); intro v518 w19 ho hb hg hat; rw [← Ny517.out] at ho; have n0_ := Aside0.mk (Kd.R_after (ok := (fun _ => True)) (by (with_reducible repeat (first | apply Kd.R_alloc | apply Kd.R_drewN | apply Kd.R_drew)); exact HO513.out) hg hat); have n1_ := Aside0.mk (hb); have n2_ := Aside0.mk (ho); clear HO513; clear HB; clear HO516; have HO513 := n0_; have HB := n1_; have HO519 := n2_; clear n0_ n1_ n2_; clear ho hb hg hat) | ((with_reducible refine gate_builtin (b := .append) (xs := #[.tmp 43, .tmp 44]) rfl ?_); (try (refine gate_guard (by rfl) ?_; dsimp only)); at_builtin; refine Kd.R_append_rows (Kd.int .u8) (w0 := w) w.heap.size rfl (.tmp 43) (.tmp 44) 27 5 (.int .u8 0) 1 rfl Try.underlying27 info5 rfl (by decide) (by omega) v518 y517 l2 _ _ _ (fun k_ => some k_ ≠ (.slice Ao20 t510.length co20 : Value).ownBlock) (fun _ => False) rfl rfl ?aO ?aR (fun _ _ h => h) (fun _ h => h.elim) ?aF ?aB ?aS ?aL ?_; (case aR => repeat (first | exact (Kd.C_below HR2.out HB.out) | (with_reducible refine Kd.C_alloc ?_ _) | (with_reducible refine Kd.C_drewN ?_ _) | (with_reducible refine Kd.C_drew ?_))); (case aB => exact (by repeat (first | (with_reducible first | exact HB.out | apply below_alloc | apply pw_below_drewN | apply below_drew1) | exact HB.out))); (case aF => exact (fun k_ hk => Kd.fresh' (Kd.R_lt (by (with_reducible repeat (first | apply Kd.R_alloc | apply Kd.R_drewN | apply Kd.R_drew)); exact HO513.out)) k_ hk)); (case aO => exact (by (with_reducible repeat (first | apply Kd.R_alloc | apply Kd.R_drewN | apply Kd.R_drew)); exact HO519.out)); (case aS => exact (below_size (by repeat (first | (with_reducible first | exact HB.out | apply below_alloc | apply pw_below_drewN | apply below_drew1) | exact HB.out)))); (case aL => have := LMc13.out; omega); intro v521 w21 ho hb hg hat; rw [← Ny520.out] at ho; have n0_ := Aside0.mk (Kd.R_after (ok := (fun _ => True)) (by (with_reducible repeat (first | apply Kd.R_alloc | apply Kd.R_drewN | apply Kd.R_drew)); exact HO513.out) hg hat); have n1_ := Aside0.mk (hb); have n2_ := Aside0.mk (ho); clear HO513; clear HB; clear HO519; have HO513 := n0_; have HB := n1_; have HO522 := n2_; clear n0_ n1_ n2_; clear ho hb hg hat; obtain ⟨Ao22, co22, eo22⟩ := Kd.R_slice HO522.out; subst eo22) | ((with_reducible refine gate_callee (f := 28) rfl ?_); refine goesL_ (some 46) rfl rfl Try.func28 (by kernel_rfl) rfl #[.slice Ao22 y520.length co22] rfl (by (try simp only [List.map_toArray, List.map_cons, List.map_nil]); first | done | rfl | (simp only [List.length_drop, List.length_take]; rfl)) ?_; (with_reducible refine (wire_GetRecord.calls kj3 (fun k_ => some k_ = (.slice Ao22 y520.length co22 : Value).ownBlock) _ _ y520 t523 t524 t527 t528 _ ?side1 A14.out).mono ?_); (case side1 => exact Kd.R_V (Kd.R_tight rfl (HO522.out))); rintro e w23 ⟨v525, rfl, ho0, hb⟩; refine ⟨_, rfl, ?_⟩; have n0_ := Aside0.mk (Kd.R_elder' (by (with_reducible repeat (first | apply Kd.R_alloc | apply Kd.R_drewN | apply Kd.R_drew)); exact HO513.out) (Kd.R_base ho0) hb); have n1_ := Aside0.mk (Kd.R_elder' (by (with_reducible repeat (first | apply Kd.R_alloc | apply Kd.R_drewN | apply Kd.R_drew)); exact HO522.out) (Kd.R_base ho0) hb); have n2_ := Aside0.mk (Kd.R_lower (Kd.R_new' (Kd.R_new' (Kd.R_mono (ok' := fun k_ => True) ho0 (fun _ hk_ => trivial)) (Kd.R_lt (by (with_reducible repeat (first | apply Kd.R_alloc | apply Kd.R_drewN | apply Kd.R_drew)); exact HO513.out))) (Kd.R_lt (by (with_reducible repeat (first | apply Kd.R_alloc | apply Kd.R_drewN | apply Kd.R_drew)); exact HO522.out))) (below_size (by repeat (first | (with_reducible first | exact HB.out | apply below_alloc | apply pw_below_drewN | apply below_drew1) | exact HB.out)))); have n3_ := Aside0.mk (below_step (by repeat (first | (with_reducible first | exact HB.out | apply below_alloc | apply pw_below_drewN | apply below_drew1) | exact HB.out)) hb); clear HO513; clear HO522; clear HB; have HO513 := n0_; have HO522 := n1_; have HO526 := n2_; have HB := n3_; clear n0_ n1_ n2_ n3_; (try clear hb); (try clear hb2); (try clear hk); (try clear hi); (try clear ho0)))
            (try simp only [Act.put, List.setIfInBounds_toArray, List.set_cons_zero, List.set_cons_succ])
            go_cut [73] (fun v73 wc => ∃ (kq : Nat) (x73_14 : Bool), v73 = .bool x73_14 ∧ Aside0 (hucksterlaw02_WireCuts.j1 kq t510 x73_14 = some r) ∧ Aside0 (kq ≤ kj3) ∧ Aside0 (Kd.R (Kd.int .u8) 5 wc w.heap.size (fun _ => True) (.slice Ao20 t510.length co20) t510) ∧ Aside0 (Below w.heap.size w wc))
            case first =>
              have H := HC15.out
              clear HC15
              by_cases c24 : t511 = 0
              · rw [if_pos c24] at H
                have c24b0 : (t511 == 0) = true := beq_iff_eq.mpr c24
                have c24b1 : (t511 != 0) = false := bne_eq_false_iff_eq.mpr c24
                clear c24
                (first | rw [c24b0] | (simp only [i64_w, i32_w]; rw [c24b0]) | skip)
                by_cases c25 : t528 = 0
                · rw [if_pos c25] at H
                  have c25b0 : (t528 == 0) = true := beq_iff_eq.mpr c25
                  have c25b1 : (t528 != 0) = false := bne_eq_false_iff_eq.mpr c25
                  clear c25
                  by_cases c26 : t523 = a0
                  · rw [if_pos c26] at H
                    have c26b0 : (t523 == a0) = true := beq_iff_eq.mpr c26
                    have c26b1 : (t523 != a0) = false := bne_eq_false_iff_eq.mpr c26
                    clear c26
                    by_cases c27 : t527 = (t510.length : Int)
                    · rw [if_pos c27] at H
                      have c27b0 : (t527 == (t510.length : Int)) = true := beq_iff_eq.mpr c27
                      have c27b1 : (t527 != (t510.length : Int)) = false := bne_eq_false_iff_eq.mpr c27
                      clear c27
                      replace H := Option.bind_eq_some_iff.mp H
                      obtain ⟨t529, A280, H⟩ := H
                      replace H : (hucksterlaw02_WireCuts.j1 kj3 t510 (!t529)) = some r := H
                      have A28 := Aside0.mk A280
                      clear A280
                      have H' := Aside0.mk H
                      clear H
                      obtain ⟨Ao29, co29, eo29⟩ := Kd.R_slice HO526.out
                      subst eo29
                      go_wp2_with (first | (go_at_call 11; (with_reducible refine (hucksterref02_Bytes.calls kj3 _ _ t524 _ _ l1 t529 _ ?side1 ?side2 ?side3 ?side4 A28.out).mono ?_); (case side1 => repeat (first | exact (Kd.R_reads' HO526.out).2.2 | (with_reducible refine Kd.C_alloc ?_ _) | (with_reducible refine Kd.C_drewN ?_ _) | (with_reducible refine Kd.C_drew ?_))); (case side2 => exact (Kd.R_reads' HO526.out).2.1); (case side3 => repeat (first | exact (Kd.C_below HR1.out HB.out) | (with_reducible refine Kd.C_alloc ?_ _) | (with_reducible refine Kd.C_drewN ?_ _) | (with_reducible refine Kd.C_drew ?_))); (case side4 => exact HC1.out); rintro e w' ⟨rfl, ⟨nd, rfl⟩⟩))
                      go_meet
                      case rel => exact ⟨_, (!t529), (by first | rfl | (simp; done) | (simp [*]; done)), H', ⟨by have := HJ3.out; first | omega | exact Nat.le_refl _⟩, ⟨by (with_reducible repeat (first | apply Kd.R_alloc | apply Kd.R_drewN | apply Kd.R_drew)); exact Kd.R_mono HO513.out (fun _ hk => trivial)⟩, ⟨by repeat (first | (with_reducible first | exact HB.out | apply below_alloc | apply pw_below_drewN | apply below_drew1) | exact HB.out)⟩⟩
                    · rw [if_neg c27] at H
                      have c27b0 : (t527 == (t510.length : Int)) = false := beq_eq_false_iff_ne.mpr c27
                      have c27b1 : (t527 != (t510.length : Int)) = true := bne_iff_ne.mpr c27
                      have H' := Aside0.mk H
                      clear H
                      go_wp2
                      go_meet
                      case rel => exact ⟨_, (true), (by first | rfl | (simp; done) | (simp [*]; done)), H', ⟨by have := HJ3.out; first | omega | exact Nat.le_refl _⟩, ⟨by (with_reducible repeat (first | apply Kd.R_alloc | apply Kd.R_drewN | apply Kd.R_drew)); exact Kd.R_mono HO513.out (fun _ hk => trivial)⟩, ⟨by repeat (first | (with_reducible first | exact HB.out | apply below_alloc | apply pw_below_drewN | apply below_drew1) | exact HB.out)⟩⟩
                  · rw [if_neg c26] at H
                    have c26b0 : (t523 == a0) = false := beq_eq_false_iff_ne.mpr c26
                    have c26b1 : (t523 != a0) = true := bne_iff_ne.mpr c26
                    have H' := Aside0.mk H
                    clear H
                    go_wp2
                    go_meet
                    case rel => exact ⟨_, (true), (by first | rfl | (simp; done) | (simp [*]; done)), H', ⟨by have := HJ3.out; first | omega | exact Nat.le_refl _⟩, ⟨by (with_reducible repeat (first | apply Kd.R_alloc | apply Kd.R_drewN | apply Kd.R_drew)); exact Kd.R_mono HO513.out (fun _ hk => trivial)⟩, ⟨by repeat (first | (with_reducible first | exact HB.out | apply below_alloc | apply pw_below_drewN | apply below_drew1) | exact HB.out)⟩⟩
                · rw [if_neg c25] at H
                  have c25b0 : (t528 == 0) = false := beq_eq_false_iff_ne.mpr c25
                  have c25b1 : (t528 != 0) = true := bne_iff_ne.mpr c25
                  have H' := Aside0.mk H
                  clear H
                  go_wp2
                  go_meet
                  case rel => exact ⟨_, (true), (by first | rfl | (simp; done) | (simp [*]; done)), H', ⟨by have := HJ3.out; first | omega | exact Nat.le_refl _⟩, ⟨by (with_reducible repeat (first | apply Kd.R_alloc | apply Kd.R_drewN | apply Kd.R_drew)); exact Kd.R_mono HO513.out (fun _ hk => trivial)⟩, ⟨by repeat (first | (with_reducible first | exact HB.out | apply below_alloc | apply pw_below_drewN | apply below_drew1) | exact HB.out)⟩⟩
              · rw [if_neg c24] at H
                have c24b0 : (t511 == 0) = false := beq_eq_false_iff_ne.mpr c24
                have c24b1 : (t511 != 0) = true := bne_iff_ne.mpr c24
                (first | rw [c24b0] | (simp only [i64_w, i32_w]; rw [c24b0]) | skip)
                have H' := Aside0.mk H
                clear H
                go_wp2
                go_meet
                case rel => exact ⟨_, (true), (by first | rfl | (simp; done) | (simp [*]; done)), H', ⟨by have := HJ3.out; first | omega | exact Nat.le_refl _⟩, ⟨by (with_reducible repeat (first | apply Kd.R_alloc | apply Kd.R_drewN | apply Kd.R_drew)); exact Kd.R_mono HO513.out (fun _ hk => trivial)⟩, ⟨by repeat (first | (with_reducible first | exact HB.out | apply below_alloc | apply pw_below_drewN | apply below_drew1) | exact HB.out)⟩⟩
            case rest =>
              clear HC15
              try clear c1
              try clear c2
              try clear p2
              try clear c5
              try clear c5b0
              try clear c5b1
              try clear c6
              try clear c6b0
              try clear c6b1
              try clear c8
              try clear c10
              try clear c12
              try clear c13
              try clear c24
              try clear c24b0
              try clear c24b1
              try clear c25
              try clear c25b0
              try clear c25b1
              try clear c26
              try clear c26b0
              try clear c26b1
              try clear c27
              try clear c27b0
              try clear c27b1
              try clear c28
              try clear p2
              obtain ⟨kq, x73_14, rfl, HA, HJ14, HO_7, HB⟩ := hcut
              cases kq with
              | zero => exact absurd HA.out (by simp [hucksterlaw02_WireCuts.j1])
              | succ kj14 =>
                have H := HA.out
                clear HA
                simp only [hucksterlaw02_WireCuts.j1] at H
                by_cases c30 : x73_14 = true
                · subst c30
                  have H1 : (some false) = some r := by rw [if_pos rfl] at H; exact H
                  clear H
                  have H := H1
                  clear H1
                  obtain rfl := Option.some.inj H
                  go_wp2
                  go_ret
                  exact ⟨by first | rfl | (simp [errW_none, errW_some] <;> rfl) | (simp [*, errW_none, errW_some] <;> rfl), by repeat (first | (with_reducible first | exact HB.out | apply below_alloc | apply pw_below_drewN | apply below_drew1) | exact HB.out)⟩
                · replace c30 := Bool.eq_false_iff.mpr c30
                  subst c30
                  have H1 : (hucksterlaw02_WireCuts.l0 kj14 t510 0) = some r := by rw [if_neg (show ¬ (false = true) by decide)] at H; exact H
                  clear H
                  have H := H1
                  clear H1
                  have H' := Aside0.mk H
                  clear H
                  go_wp2
                  go_loopg [13] kj14 (fun kq v13 w' => ∃ (x13_3 : Int), v13 = .int .i64 x13_3 ∧ Aside0 (hucksterlaw02_WireCuts.l0 kq t510 x13_3 = some r) ∧ Aside0 (kq ≤ kj14) ∧ Aside0 (Kd.R (Kd.int .u8) 5 w' w.heap.size (fun _ => True) (.slice Ao20 t510.length co20) t510) ∧ Aside0 (Below w.heap.size w w'))
                  case atStart => exact ⟨(0), (by first | rfl | (simp; done) | (simp [*]; done)), H', ⟨Nat.le_refl _⟩, ⟨by (with_reducible repeat (first | apply Kd.R_alloc | apply Kd.R_drewN | apply Kd.R_drew)); exact HO_7.out⟩, ⟨by repeat (first | (with_reducible first | exact HB.out | apply below_alloc | apply pw_below_drewN | apply below_drew1) | exact HB.out)⟩⟩
                  case round =>
                    clear H'
                    try clear c1
                    try clear c2
                    try clear p2
                    try clear c3
                    try clear c5
                    try clear c5b0
                    try clear c5b1
                    try clear c6
                    try clear c6b0
                    try clear c6b1
                    try clear c8
                    try clear c10
                    try clear c12
                    try clear c13
                    try clear c24
                    try clear c24b0
                    try clear c24b1
                    try clear c25
                    try clear c25b0
                    try clear c25b1
                    try clear c26
                    try clear c26b0
                    try clear c26b1
                    try clear c27
                    try clear c27b0
                    try clear c27b1
                    try clear c28
                    try clear c30
                    try clear p2
                    obtain ⟨x13_3, rfl, HA, HK3, HO_7, HB⟩ := hrel
                    cases gk with
                    | zero => exact absurd HA.out (by simp [hucksterlaw02_WireCuts.l0])
                    | succ k3 =>
                      have H := HA.out
                      clear HA
                      simp only [hucksterlaw02_WireCuts.l0] at H
                      have HC31 := Aside0.mk H
                      clear H
                      go_upto_region 8 with (fail)
                      go_cut [81] (fun v81 wc => ∃ (kq : Nat) (x81_30 : Bool), v81 = .bool x81_30 ∧ Aside0 (hucksterlaw02_WireCuts.j3 kq t510 x13_3 x81_30 = some r) ∧ Aside0 (kq ≤ k3) ∧ Aside0 (Kd.R (Kd.int .u8) 5 wc w.heap.size (fun _ => True) (.slice Ao20 t510.length co20) t510) ∧ Aside0 (Below w.heap.size w wc))
                      case first =>
                        have H := HC31.out
                        clear HC31
                        by_cases c32 : x13_3 < (t510.length : Int)
                        · rw [if_pos c32] at H
                          have c32b0 : decide (x13_3 < (t510.length : Int)) = true := decide_eq_true c32
                          clear c32
                          (first | rw [c32b0] | (simp only [i64_w, i32_w]; rw [c32b0]) | skip)
                          have H' := Aside0.mk H
                          clear H
                          go_wp2
                          go_meet
                          case rel => exact ⟨_, (decide (x13_3 < 60)), (by first | rfl | (simp; done) | (simp [*]; done)), H', ⟨by have := HJ3.out; have := HJ14.out; have := HK3.out; first | omega | exact Nat.le_refl _⟩, ⟨by (with_reducible repeat (first | apply Kd.R_alloc | apply Kd.R_drewN | apply Kd.R_drew)); exact HO_7.out⟩, ⟨by repeat (first | (with_reducible first | exact HB.out | apply below_alloc | apply pw_below_drewN | apply below_drew1) | exact HB.out)⟩⟩
                        · rw [if_neg c32] at H
                          have c32b0 : decide (x13_3 < (t510.length : Int)) = false := decide_eq_false c32
                          clear c32
                          (first | rw [c32b0] | (simp only [i64_w, i32_w]; rw [c32b0]) | skip)
                          have H' := Aside0.mk H
                          clear H
                          go_wp2
                          go_meet
                          case rel => exact ⟨_, (false), (by first | rfl | (simp; done) | (simp [*]; done)), H', ⟨by have := HJ3.out; have := HJ14.out; have := HK3.out; first | omega | exact Nat.le_refl _⟩, ⟨by (with_reducible repeat (first | apply Kd.R_alloc | apply Kd.R_drewN | apply Kd.R_drew)); exact HO_7.out⟩, ⟨by repeat (first | (with_reducible first | exact HB.out | apply below_alloc | apply pw_below_drewN | apply below_drew1) | exact HB.out)⟩⟩
                      case rest =>
                        clear HC31
                        try clear c1
                        try clear c2
                        try clear p2
                        try clear c3
                        try clear c5
                        try clear c5b0
                        try clear c5b1
                        try clear c6
                        try clear c6b0
                        try clear c6b1
                        try clear c8
                        try clear c10
                        try clear c12
                        try clear c13
                        try clear c24
                        try clear c24b0
                        try clear c24b1
                        try clear c25
                        try clear c25b0
                        try clear c25b1
                        try clear c26
                        try clear c26b0
                        try clear c26b1
                        try clear c27
                        try clear c27b0
                        try clear c27b1
                        try clear c28
                        try clear c30
                        try clear c32
                        try clear c32b0
                        try clear p2
                        obtain ⟨kq, x81_30, rfl, HA, HJ30, HO_7, HB⟩ := hcut
                        cases kq with
                        | zero => exact absurd HA.out (by simp [hucksterlaw02_WireCuts.j3])
                        | succ kj30 =>
                          have H := HA.out
                          clear HA
                          simp only [hucksterlaw02_WireCuts.j3] at H
                          by_cases c33 : x81_30 = true
                          · subst c33
                            have H1 : (if x13_3 ≥ 30 then (hucksterlaw02_WireCuts.j4 kj30 t510 x13_3 (wrap64 ((wrap64 ((t510.length : Int) - 1)) - (wrap64 (x13_3 - 30))))) else (hucksterlaw02_WireCuts.j4 kj30 t510 x13_3 x13_3)) = some r := by rw [if_pos rfl] at H; exact H
                            clear H
                            have H := H1
                            clear H1
                            have HC34 := Aside0.mk H
                            clear H
                            go_upto_if 86 with (fail)
                            go_cut [14] (fun v14 wc => ∃ (kq : Nat) (x14_33 : Int), v14 = .int .i64 x14_33 ∧ Aside0 (hucksterlaw02_WireCuts.j4 kq t510 x13_3 x14_33 = some r) ∧ Aside0 (kq ≤ kj30) ∧ Aside0 (Kd.R (Kd.int .u8) 5 wc w.heap.size (fun _ => True) (.slice Ao20 t510.length co20) t510) ∧ Aside0 (Below w.heap.size w wc))
                            case first =>
                              have H := HC34.out
                              clear HC34
                              by_cases c35 : x13_3 ≥ 30
                              · rw [if_pos c35] at H
                                have c35b0 : decide (30 ≤ x13_3) = true := decide_eq_true c35
                                clear c35
                                (first | rw [c35b0] | (simp only [i64_w, i32_w]; rw [c35b0]) | skip)
                                have H' := Aside0.mk H
                                clear H
                                go_wp2
                                go_meet
                                case rel => exact ⟨_, (wrap64 ((wrap64 ((t510.length : Int) - 1)) - (wrap64 (x13_3 - 30)))), (by first | rfl | (simp; done) | (simp [*]; done)), H', ⟨by have := HJ3.out; have := HJ14.out; have := HK3.out; have := HJ30.out; first | omega | exact Nat.le_refl _⟩, ⟨by (with_reducible repeat (first | apply Kd.R_alloc | apply Kd.R_drewN | apply Kd.R_drew)); exact HO_7.out⟩, ⟨by repeat (first | (with_reducible first | exact HB.out | apply below_alloc | apply pw_below_drewN | apply below_drew1) | exact HB.out)⟩⟩
                              · rw [if_neg c35] at H
                                have c35b0 : decide (30 ≤ x13_3) = false := decide_eq_false c35
                                clear c35
                                (first | rw [c35b0] | (simp only [i64_w, i32_w]; rw [c35b0]) | skip)
                                have H' := Aside0.mk H
                                clear H
                                go_wp2
                                go_meet
                                case rel => exact ⟨_, (x13_3), (by first | rfl | (simp; done) | (simp [*]; done)), H', ⟨by have := HJ3.out; have := HJ14.out; have := HK3.out; have := HJ30.out; first | omega | exact Nat.le_refl _⟩, ⟨by (with_reducible repeat (first | apply Kd.R_alloc | apply Kd.R_drewN | apply Kd.R_drew)); exact HO_7.out⟩, ⟨by repeat (first | (with_reducible first | exact HB.out | apply below_alloc | apply pw_below_drewN | apply below_drew1) | exact HB.out)⟩⟩
                            case rest =>
                              clear HC34
                              try clear c1
                              try clear c2
                              try clear p2
                              try clear c3
                              try clear c5
                              try clear c5b0
                              try clear c5b1
                              try clear c6
                              try clear c6b0
                              try clear c6b1
                              try clear p6
                              try clear c8
                              try clear c10
                              try clear c12
                              try clear c13
                              try clear c24
                              try clear c24b0
                              try clear c24b1
                              try clear c25
                              try clear c25b0
                              try clear c25b1
                              try clear c26
                              try clear c26b0
                              try clear c26b1
                              try clear c27
                              try clear c27b0
                              try clear c27b1
                              try clear c28
                              try clear c30
                              try clear c32
                              try clear c32b0
                              try clear c33
                              try clear c35
                              try clear c35b0
                              try clear p2
                              obtain ⟨kq, x14_33, rfl, HA, HJ33, HO_7, HB⟩ := hcut
                              cases kq with
                              | zero => exact absurd HA.out (by simp [hucksterlaw02_WireCuts.j4])
                              | succ kj33 =>
                                have H := HA.out
                                clear HA
                                simp only [hucksterlaw02_WireCuts.j4] at H
                                by_cases c36 : x14_33 < 0
                                · rw [if_pos c36] at H
                                  have c36b0 : decide (x14_33 < 0) = true := decide_eq_true c36
                                  clear c36
                                  have H' := Aside0.mk H
                                  clear H
                                  go_wp2
                                  go_roundg kj33
                                  case measure => have := HJ3.out; have := HJ14.out; have := HK3.out; have := HJ30.out; have := HJ33.out; omega
                                  case rel => exact ⟨(wrap64 (x13_3 + 1)), (by first | rfl | (simp; done) | (simp [*]; done)), H', ⟨by have := HJ3.out; have := HJ14.out; have := HK3.out; have := HJ30.out; have := HJ33.out; omega⟩, ⟨by (with_reducible repeat (first | apply Kd.R_alloc | apply Kd.R_drewN | apply Kd.R_drew)); exact HO_7.out⟩, ⟨by repeat (first | (with_reducible first | exact HB.out | apply below_alloc | apply pw_below_drewN | apply below_drew1) | exact HB.out)⟩⟩
                                · rw [if_neg c36] at H
                                  have c36b0 : decide (x14_33 < 0) = false := decide_eq_false c36
                                  clear c36
                                  by_cases c37 : 0 ≤ x14_33
                                  · rw [if_pos c37] at H
                                    have c37b0 := eq_true c37
                                    have c37b1 : decide (0 ≤ x14_33) = true := decide_eq_true c37
                                    clear c37
                                    by_cases c38 : x14_33 ≤ (t510.length : Int)
                                    · rw [if_pos c38] at H
                                      have c38b0 := eq_true c38
                                      have c38b1 : decide (x14_33 ≤ (t510.length : Int)) = true := decide_eq_true c38
                                      clear c38
                                      obtain ⟨y531, hy531⟩ : ∃ y_ : List Int, y_ = (t510.take (x14_33 : Int).toNat) := ⟨_, rfl⟩
                                      replace H : ((wire_GetRecord.f kj33 y531).bind fun bt535 => (if bt535.2.2.2 = 3 then (if bt535.2.2.1 = 0 then (hucksterlaw02_WireCuts.l0 kj33 t510 (wrap64 (x13_3 + 1))) else (some false)) else (some false))) = some r := by first | (rw [hy531]; with_reducible exact H) | (have H2_ := (Option.bind_some _ _).symm.trans H; rw [hy531]; with_reducible exact H2_) | (have H2_ := (Option.bind_some _ _).symm.trans H; with_reducible exact H2_) | with_reducible exact H | (rw [hy531]; exact H) | exact H
                                      have Ny531 := Aside0.mk hy531
                                      clear hy531
                                      replace H := Option.bind_eq_some_iff.mp H
                                      obtain ⟨⟨t535, t536, t539, t540⟩, A390, H⟩ := H
                                      replace H : (if t540 = 3 then (if t539 = 0 then (hucksterlaw02_WireCuts.l0 kj33 t510 (wrap64 (x13_3 + 1))) else (some false)) else (some false)) = some r := H
                                      have A39 := Aside0.mk A390
                                      clear A390
                                      by_cases c40 : t540 = 3
                                      · rw [if_pos c40] at H
                                        have c40b0 : (t540 == 3) = true := beq_iff_eq.mpr c40
                                        have c40b1 : (t540 != 3) = false := bne_eq_false_iff_eq.mpr c40
                                        clear c40
                                        by_cases c41 : t539 = 0
                                        · rw [if_pos c41] at H
                                          have c41b0 : (t539 == 0) = true := beq_iff_eq.mpr c41
                                          have c41b1 : (t539 != 0) = false := bne_eq_false_iff_eq.mpr c41
                                          clear c41
                                          have H' := Aside0.mk H
                                          clear H
                                          have q42 : (x14_33 : Int) ≤ ((t510.length : Int) : Int) := of_decide_eq_true (by first | (with_reducible assumption) | assumption)
                                          obtain ⟨i042, hi042, _, hsz42, _⟩ := info_parts info5
                                          have hroom42 : t510.length ≤ co20 := (Kd.R_reads' HO_7.out).2.1
                                          have hC42 : Kd.C (Kd.int .u8) _ Ao20 t510.length t510 := (Kd.R_reads' HO_7.out).2.2
                                          have hcut42 := cut_to (P := Try.prog) 27 5 .i64 Try.underlying27 hi042 Ao20 t510.length co20 x14_33 (of_decide_eq_true (by first | (with_reducible assumption) | assumption)) q42 hroom42
                                          have hr42 := Kd.C_take (m := (x14_33 : Int).toNat) hC42 (by omega)
                                          have hy42 : y531.length = (x14_33 : Int).toNat := (by rw [Ny531.out, List.length_take]; omega)
                                          rw [← Ny531.out] at hr42
                                          rw [← hy42] at hcut42
                                          have HR534 := Aside0.mk hr42
                                          have HC534 := Aside0.mk (show y531.length ≤ co20 from by omega)
                                          clear hr42 hC42 hroom42 hi042 hsz42
                                          have KY42 := Aside0.mk hy42
                                          clear hy42
                                          have KL42 := Aside0.mk (show (x14_33 : Int).toNat ≤ t510.length from by omega)
                                          replace q42 := eq_true q42
                                          go_wp2_with (first | ((with_reducible refine gate_callee (f := 28) rfl ?_); refine goesL_ (some 99) rfl rfl Try.func28 (by kernel_rfl) rfl #[.slice Ao20 y531.length co20] rfl (by (try simp only [List.map_toArray, List.map_cons, List.map_nil]); first | done | rfl | (simp only [List.length_drop, List.length_take]; rfl)) ?_; (with_reducible refine (wire_GetRecord.calls kj33 (fun k_ => True) _ _ y531 t535 t536 t539 t540 _ ?side1 A39.out).mono ?_); (case side1 => exact Kd.V_mk HC534.out (Kd.F_mono (Kd.C_F (Kd.heap_int .u8) (by repeat (first | (with_reducible exact HR534.out) | (with_reducible refine Kd.C_alloc ?_ _) | (with_reducible refine Kd.C_drewN ?_ _) | (with_reducible refine Kd.C_drew ?_) | exact HR534.out))) (fun _ _ => trivial))); rintro e w43 ⟨v537, rfl, ho0, hb⟩; refine ⟨_, rfl, ?_⟩; have n0_ := Aside0.mk (Kd.R_elder' (by (with_reducible repeat (first | apply Kd.R_alloc | apply Kd.R_drewN | apply Kd.R_drew)); exact HO_7.out) (Kd.R_base ho0) hb); have n1_ := Aside0.mk (Kd.R_lower (Kd.R_new' (Kd.R_mono (ok' := fun k_ => True) ho0 (fun _ hk_ => trivial)) (Kd.R_lt (by (with_reducible repeat (first | apply Kd.R_alloc | apply Kd.R_drewN | apply Kd.R_drew)); exact HO_7.out))) (below_size (by repeat (first | (with_reducible first | exact HB.out | apply below_alloc | apply pw_below_drewN | apply below_drew1) | exact HB.out)))); have n2_ := Aside0.mk (Kd.C_below (by repeat (first | (with_reducible exact HR534.out) | (with_reducible refine Kd.C_alloc ?_ _) | (with_reducible refine Kd.C_drewN ?_ _) | (with_reducible refine Kd.C_drew ?_) | exact HR534.out)) hb); have n3_ := Aside0.mk (below_step (by repeat (first | (with_reducible first | exact HB.out | apply below_alloc | apply pw_below_drewN | apply below_drew1) | exact HB.out)) hb); clear HO_7; clear HR534; clear HB; have HO_7 := n0_; have HO538 := n1_; have HR534 := n2_; have HB := n3_; clear n0_ n1_ n2_ n3_; (try clear hb); (try clear hb2); (try clear hk); (try clear hi); (try clear ho0)))
                                          go_roundg kj33
                                          case measure => have := HJ3.out; have := HJ14.out; have := HK3.out; have := HJ30.out; have := HJ33.out; omega
                                          case rel => exact ⟨(wrap64 (x13_3 + 1)), (by first | rfl | (simp; done) | (simp [*]; done)), H', ⟨by have := HJ3.out; have := HJ14.out; have := HK3.out; have := HJ30.out; have := HJ33.out; omega⟩, ⟨by (with_reducible repeat (first | apply Kd.R_alloc | apply Kd.R_drewN | apply Kd.R_drew)); exact Kd.R_mono HO_7.out (fun _ hk => trivial)⟩, ⟨by repeat (first | (with_reducible first | exact HB.out | apply below_alloc | apply pw_below_drewN | apply below_drew1) | exact HB.out)⟩⟩
                                        · rw [if_neg c41] at H
                                          have c41b0 : (t539 == 0) = false := beq_eq_false_iff_ne.mpr c41
                                          have c41b1 : (t539 != 0) = true := bne_iff_ne.mpr c41
                                          obtain rfl := Option.some.inj H
                                          have q44 : (x14_33 : Int) ≤ ((t510.length : Int) : Int) := of_decide_eq_true (by first | (with_reducible assumption) | assumption)
                                          obtain ⟨i044, hi044, _, hsz44, _⟩ := info_parts info5
                                          have hroom44 : t510.length ≤ co20 := (Kd.R_reads' HO_7.out).2.1
                                          have hC44 : Kd.C (Kd.int .u8) _ Ao20 t510.length t510 := (Kd.R_reads' HO_7.out).2.2
                                          have hcut44 := cut_to (P := Try.prog) 27 5 .i64 Try.underlying27 hi044 Ao20 t510.length co20 x14_33 (of_decide_eq_true (by first | (with_reducible assumption) | assumption)) q44 hroom44
                                          have hr44 := Kd.C_take (m := (x14_33 : Int).toNat) hC44 (by omega)
                                          have hy44 : y531.length = (x14_33 : Int).toNat := (by rw [Ny531.out, List.length_take]; omega)
                                          rw [← Ny531.out] at hr44
                                          rw [← hy44] at hcut44
                                          have HR534 := Aside0.mk hr44
                                          have HC534 := Aside0.mk (show y531.length ≤ co20 from by omega)
                                          clear hr44 hC44 hroom44 hi044 hsz44
                                          have KY44 := Aside0.mk hy44
                                          clear hy44
                                          have KL44 := Aside0.mk (show (x14_33 : Int).toNat ≤ t510.length from by omega)
                                          replace q44 := eq_true q44
                                          go_wp2_with (first | ((with_reducible refine gate_callee (f := 28) rfl ?_); refine goesL_ (some 99) rfl rfl Try.func28 (by kernel_rfl) rfl #[.slice Ao20 y531.length co20] rfl (by (try simp only [List.map_toArray, List.map_cons, List.map_nil]); first | done | rfl | (simp only [List.length_drop, List.length_take]; rfl)) ?_; (with_reducible refine (wire_GetRecord.calls kj33 (fun k_ => True) _ _ y531 t535 t536 t539 t540 _ ?side1 A39.out).mono ?_); (case side1 => exact Kd.V_mk HC534.out (Kd.F_mono (Kd.C_F (Kd.heap_int .u8) (by repeat (first | (with_reducible exact HR534.out) | (with_reducible refine Kd.C_alloc ?_ _) | (with_reducible refine Kd.C_drewN ?_ _) | (with_reducible refine Kd.C_drew ?_) | exact HR534.out))) (fun _ _ => trivial))); rintro e w45 ⟨v537, rfl, ho0, hb⟩; refine ⟨_, rfl, ?_⟩; have n0_ := Aside0.mk (Kd.R_elder' (by (with_reducible repeat (first | apply Kd.R_alloc | apply Kd.R_drewN | apply Kd.R_drew)); exact HO_7.out) (Kd.R_base ho0) hb); have n1_ := Aside0.mk (Kd.R_lower (Kd.R_new' (Kd.R_mono (ok' := fun k_ => True) ho0 (fun _ hk_ => trivial)) (Kd.R_lt (by (with_reducible repeat (first | apply Kd.R_alloc | apply Kd.R_drewN | apply Kd.R_drew)); exact HO_7.out))) (below_size (by repeat (first | (with_reducible first | exact HB.out | apply below_alloc | apply pw_below_drewN | apply below_drew1) | exact HB.out)))); have n2_ := Aside0.mk (Kd.C_below (by repeat (first | (with_reducible exact HR534.out) | (with_reducible refine Kd.C_alloc ?_ _) | (with_reducible refine Kd.C_drewN ?_ _) | (with_reducible refine Kd.C_drew ?_) | exact HR534.out)) hb); have n3_ := Aside0.mk (below_step (by repeat (first | (with_reducible first | exact HB.out | apply below_alloc | apply pw_below_drewN | apply below_drew1) | exact HB.out)) hb); clear HO_7; clear HR534; clear HB; have HO_7 := n0_; have HO538 := n1_; have HR534 := n2_; have HB := n3_; clear n0_ n1_ n2_ n3_; (try clear hb); (try clear hb2); (try clear hk); (try clear hi); (try clear ho0)))
                                          go_ret
                                          exact ⟨by first | rfl | (simp [errW_none, errW_some] <;> rfl) | (simp [*, errW_none, errW_some] <;> rfl), by repeat (first | (with_reducible first | exact HB.out | apply below_alloc | apply pw_below_drewN | apply below_drew1) | exact HB.out)⟩
                                      · rw [if_neg c40] at H
                                        have c40b0 : (t540 == 3) = false := beq_eq_false_iff_ne.mpr c40
                                        have c40b1 : (t540 != 3) = true := bne_iff_ne.mpr c40
                                        obtain rfl := Option.some.inj H
                                        have q46 : (x14_33 : Int) ≤ ((t510.length : Int) : Int) := of_decide_eq_true (by first | (with_reducible assumption) | assumption)
                                        obtain ⟨i046, hi046, _, hsz46, _⟩ := info_parts info5
                                        have hroom46 : t510.length ≤ co20 := (Kd.R_reads' HO_7.out).2.1
                                        have hC46 : Kd.C (Kd.int .u8) _ Ao20 t510.length t510 := (Kd.R_reads' HO_7.out).2.2
                                        have hcut46 := cut_to (P := Try.prog) 27 5 .i64 Try.underlying27 hi046 Ao20 t510.length co20 x14_33 (of_decide_eq_true (by first | (with_reducible assumption) | assumption)) q46 hroom46
                                        have hr46 := Kd.C_take (m := (x14_33 : Int).toNat) hC46 (by omega)
                                        have hy46 : y531.length = (x14_33 : Int).toNat := (by rw [Ny531.out, List.length_take]; omega)
                                        rw [← Ny531.out] at hr46
                                        rw [← hy46] at hcut46
                                        have HR534 := Aside0.mk hr46
                                        have HC534 := Aside0.mk (show y531.length ≤ co20 from by omega)
                                        clear hr46 hC46 hroom46 hi046 hsz46
                                        have KY46 := Aside0.mk hy46
                                        clear hy46
                                        have KL46 := Aside0.mk (show (x14_33 : Int).toNat ≤ t510.length from by omega)
                                        replace q46 := eq_true q46
                                        go_wp2_with (first | ((with_reducible refine gate_callee (f := 28) rfl ?_); refine goesL_ (some 99) rfl rfl Try.func28 (by kernel_rfl) rfl #[.slice Ao20 y531.length co20] rfl (by (try simp only [List.map_toArray, List.map_cons, List.map_nil]); first | done | rfl | (simp only [List.length_drop, List.length_take]; rfl)) ?_; (with_reducible refine (wire_GetRecord.calls kj33 (fun k_ => True) _ _ y531 t535 t536 t539 t540 _ ?side1 A39.out).mono ?_); (case side1 => exact Kd.V_mk HC534.out (Kd.F_mono (Kd.C_F (Kd.heap_int .u8) (by repeat (first | (with_reducible exact HR534.out) | (with_reducible refine Kd.C_alloc ?_ _) | (with_reducible refine Kd.C_drewN ?_ _) | (with_reducible refine Kd.C_drew ?_) | exact HR534.out))) (fun _ _ => trivial))); rintro e w47 ⟨v537, rfl, ho0, hb⟩; refine ⟨_, rfl, ?_⟩; have n0_ := Aside0.mk (Kd.R_elder' (by (with_reducible repeat (first | apply Kd.R_alloc | apply Kd.R_drewN | apply Kd.R_drew)); exact HO_7.out) (Kd.R_base ho0) hb); have n1_ := Aside0.mk (Kd.R_lower (Kd.R_new' (Kd.R_mono (ok' := fun k_ => True) ho0 (fun _ hk_ => trivial)) (Kd.R_lt (by (with_reducible repeat (first | apply Kd.R_alloc | apply Kd.R_drewN | apply Kd.R_drew)); exact HO_7.out))) (below_size (by repeat (first | (with_reducible first | exact HB.out | apply below_alloc | apply pw_below_drewN | apply below_drew1) | exact HB.out)))); have n2_ := Aside0.mk (Kd.C_below (by repeat (first | (with_reducible exact HR534.out) | (with_reducible refine Kd.C_alloc ?_ _) | (with_reducible refine Kd.C_drewN ?_ _) | (with_reducible refine Kd.C_drew ?_) | exact HR534.out)) hb); have n3_ := Aside0.mk (below_step (by repeat (first | (with_reducible first | exact HB.out | apply below_alloc | apply pw_below_drewN | apply below_drew1) | exact HB.out)) hb); clear HO_7; clear HR534; clear HB; have HO_7 := n0_; have HO538 := n1_; have HR534 := n2_; have HB := n3_; clear n0_ n1_ n2_ n3_; (try clear hb); (try clear hb2); (try clear hk); (try clear hi); (try clear ho0)))
                                        go_ret
                                        exact ⟨by first | rfl | (simp [errW_none, errW_some] <;> rfl) | (simp [*, errW_none, errW_some] <;> rfl), by repeat (first | (with_reducible first | exact HB.out | apply below_alloc | apply pw_below_drewN | apply below_drew1) | exact HB.out)⟩
                                    · rw [if_neg c38] at H
                                      exact absurd H (by simp)
                                  · rw [if_neg c37] at H
                                    exact absurd H (by simp)
                          · replace c33 := Bool.eq_false_iff.mpr c33
                            subst c33
                            have H1 : ((hucksterlaw02_awake.f kj30).bind fun t530 => (some t530)) = some r := by rw [if_neg (show ¬ (false = true) by decide)] at H; exact H
                            clear H
                            have H := H1
                            clear H1
                            replace H := Option.bind_eq_some_iff.mp H
                            obtain ⟨t530, A480, H⟩ := H
                            replace H : (some t530) = some r := H
                            have A48 := Aside0.mk A480
                            clear A480
                            obtain rfl := Option.some.inj H
                            go_wp2_with (first | ((with_reducible refine gate_callee (f := 10) rfl ?_); refine goesL_ (some 110) rfl rfl Try.func10 (by kernel_rfl) rfl #[] rfl (by (try simp only [List.map_toArray, List.map_cons, List.map_nil]); first | done | rfl | (simp only [List.length_drop, List.length_take]; rfl)) ?_; (with_reducible refine (hucksterlaw02_awake.calls kj30  t530 _ A48.out).mono ?_); rintro e w49 ⟨rfl, hb⟩; refine ⟨_, rfl, ?_⟩; have n0_ := Aside0.mk (Kd.R_below (by (with_reducible repeat (first | apply Kd.R_alloc | apply Kd.R_drewN | apply Kd.R_drew)); exact HO_7.out) hb); have n1_ := Aside0.mk (below_step (by repeat (first | (with_reducible first | exact HB.out | apply below_alloc | apply pw_below_drewN | apply below_drew1) | exact HB.out)) hb); clear HO_7; clear HB; have HO_7 := n0_; have HB := n1_; clear n0_ n1_; (try clear hb); (try clear hb2); (try clear hk); (try clear hi)))
                            go_ret
                            exact ⟨by first | rfl | (simp [errW_none, errW_some] <;> rfl) | (simp [*, errW_none, errW_some] <;> rfl), by repeat (first | (with_reducible first | exact HB.out | apply below_alloc | apply pw_below_drewN | apply below_drew1) | exact HB.out)⟩
          · rw [if_neg c13] at H
            exact absurd H (by simp)
        · rw [if_neg c12] at H
          exact absurd H (by simp)

/-- THE ONE PURE STATEMENT of hucksterlaw02_WireCuts: yours. -/
def hucksterlaw02_WireCuts.Pure : Prop := ∀ (a0 : Int) (l1 : List Int) (l2 : List Int), (Lit.int .i64 a0).wf = true → l1.length ≤ maxLen → l1.length * 1 ≤ 140737488351232 → (∀ x ∈ l1, (Lit.int .u8 x).wf = true) → l2.length ≤ maxLen → l2.length * 1 ≤ 140737488351232 → (∀ x ∈ l2, (Lit.int .u8 x).wf = true) → ∃ k, hucksterlaw02_WireCuts.f k a0 l1 l2 = some true
theorem hucksterlaw02_WireCuts.walk (P : hucksterlaw02_WireCuts.Pure) (a0 : Int) (a1 : Option Addr) (len1 cap1 : Nat) (z1 : List Int) (a2 : Option Addr) (len2 cap2 : Nat) (z2 : List Int) (w : World) (w0 : (Lit.int .i64 a0).wf = true) (w1 : (a1 = none ∧ len1 = 0 ∧ cap1 = 0 ∧ z1 = []) ∨ ∃ x, a1 = some x ∧ len1 ≤ cap1 ∧ cap1 ≤ maxLen ∧ z1.length = cap1 ∧ (∀ i, i < z1.length → w.cell? (x.add i) = some (.int .u8 (z1.getD i 0))) ∧ ∀ n ∈ z1, (Lit.int .u8 n).wf = true) (y1 : len1 * 1 ≤ 140737488351232) (w2 : (a2 = none ∧ len2 = 0 ∧ cap2 = 0 ∧ z2 = []) ∨ ∃ x, a2 = some x ∧ len2 ≤ cap2 ∧ cap2 ≤ maxLen ∧ z2.length = cap2 ∧ (∀ i, i < z2.length → w.cell? (x.add i) = some (.int .u8 (z2.getD i 0))) ∧ ∀ n ∈ z2, (Lit.int .u8 n).wf = true) (y2 : len2 * 1 ≤ 140737488351232) :
    Calls Try.prog 8 #[.int .i64 a0, .slice a1 len1 cap1, .slice a2 len2 cap2] w fun e w' => e = .returned (.bool true) ∧ Below w.heap.size w w' := by
  obtain ⟨l1, rfl, hr1, hm1, hw1, hc1⟩ := ReadsInt.ofRowC w1
  obtain ⟨l2, rfl, hr2, hm2, hw2, hc2⟩ := ReadsInt.ofRowC w2
  obtain ⟨k, h⟩ := P a0 l1 l2 w0 hm1 y1 hw1 hm2 y2 hw2
  refine (hucksterlaw02_WireCuts.calls k a0 _ _ l1 _ _ l2 true w (Kd.C_of_reads (d := (0 : Int)) (h1 := fun _ => rfl) hr1) hc1 (Kd.C_of_reads (d := (0 : Int)) (h1 := fun _ => rfl) hr2) hc2 h).mono ?_
  rintro e w' ⟨rfl, hd⟩
  exact ⟨rfl, hd⟩

end Go.Proofs.Ytgobbmhkmnaegaa.PWire
