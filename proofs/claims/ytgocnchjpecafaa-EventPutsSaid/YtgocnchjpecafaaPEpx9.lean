/- a part -/
import Derived.Test.YtgocnchjpecafaaPEpx0
namespace Go.Proofs.Ytgocnchjpecafaa.PEp
open Go.RowKit Go.Proofs.YtgocnchjpecafaaW.PrintWords Go.Proofs.YtgocnchjpecafaaW.PrintLast Go.Proofs.YtgocnchjpecafaaW.PrintMore
attribute [local go_sem] max2_int min2_int max_two min_two max_three min_three max_four min_four
set_option linter.unusedVariables false
set_option linter.unusedSimpArgs false
theorem z9_0 {P : Prop} (h : P := by first | (with_reducible assumption) | assumption) : P := h
theorem z9_1 {P : Prop} (h : P := by first | rfl | (simp; done) | (simp [*]; done)) : P := h
mutual
def hucksterlaw05_Light.l0 : Nat → List (S30) → Int → Option (Bool)
 | 0, _, _ => none
 | k + 1, x0, x3 => if x3 < (x0.length : Int) then (hucksterlaw05_Light.j1 k x0 x3 (decide (x3 ≤ 40))) else (hucksterlaw05_Light.j1 k x0 x3 false)
def hucksterlaw05_Light.j1 : Nat → List (S30) → Int → Bool → Option (Bool)
 | 0, _, _, _ => none
 | k + 1, x0, x3, x12 => if x12 = true then (if 0 ≤ x3 then (if x3 < (x0.length : Int) then (if (((rd_T30 x0 x3).f1).length : Int) > 20 then (hucksterlaw05_Light.j2 k x0 x3 true) else (hucksterlaw05_Light.j2 k x0 x3 (decide ((((rd_T30 x0 x3).f2).length : Int) > 30)))) else (none)) else (none)) else (some (decide ((x0.length : Int) ≤ 40)))
def hucksterlaw05_Light.j2 : Nat → List (S30) → Int → Bool → Option (Bool)
 | 0, _, _, _ => none
 | k + 1, x0, x3, x30 => if x30 = true then (some false) else (hucksterlaw05_Light.l1 k x0 x3 0)
def hucksterlaw05_Light.l1 : Nat → List (S30) → Int → Int → Option (Bool)
 | 0, _, _, _ => none
 | k + 1, x0, x3, x4 => if 0 ≤ x3 then (if x3 < (x0.length : Int) then (if x4 < (((rd_T30 x0 x3).f2).length : Int) then (if 0 ≤ x4 then (if (((rd_T48 ((rd_T30 x0 x3).f2) x4).f2).size : Int) > 100 then (some false) else (if (((rd_T48 ((rd_T30 x0 x3).f2) x4).f5).size : Int) > 100 then (some false) else (hucksterlaw05_Light.l1 k x0 x3 (wrap64 (x4 + 1))))) else (none)) else (hucksterlaw05_Light.l0 k x0 (wrap64 (x3 + 1)))) else (none)) else (none)
end
def hucksterlaw05_Light.f (k : Nat) (l0 : List (S30)) : Option (Bool) := hucksterlaw05_Light.l0 k l0 0
set_option maxHeartbeats 8000000 in
set_option maxRecDepth 100000 in
theorem hucksterlaw05_Light.calls (k : Nat) (A0 : Option Addr) (c0 : Nat) (l0 : List (S30)) (r : Bool) (w : World) (hr0 : Kd.C k30 w A0 l0.length l0) (hc0 : l0.length ≤ c0) (h : hucksterlaw05_Light.f k l0 = some r) :
  Calls Try.prog 16 #[.slice A0 l0.length c0] w fun e w' => e = .returned (.bool r) ∧ Drawn0 w w' := by
 have HR0 := Aside0.mk hr0
 have HC0 := Aside0.mk hc0
 clear hr0 hc0
 have H : (hucksterlaw05_Light.l0 k l0 0) = some r := h
 clear h
 have H' := Aside0.mk H
 clear H
 go_enter Try.func16, Try.ntmps16
 go_wp2
 go_loopg [3] k (fun kq v3 w' => ∃ (x3_1 : Int), v3 = .int .i64 x3_1 ∧ Aside0 (hucksterlaw05_Light.l0 kq l0 x3_1 = some r) ∧ Aside0 (kq ≤ k) ∧ Drawn0 w w')
 case atStart => exact ⟨(0), z9_1, H', ⟨Nat.le_refl _⟩, by repeat (first | exact Drawn0.refl _ | apply Drawn0.step)⟩
 case round =>
  clear H'
  try clear c1
  obtain ⟨x3_1, rfl, HA, HK1, ⟨m1, rfl⟩⟩ := hrel
  cases gk with
  | zero => exact absurd HA.out (by simp [hucksterlaw05_Light.l0])
  | succ k1 =>
   have H := HA.out
   clear HA
   simp only [hucksterlaw05_Light.l0] at H
   have HC2 := Aside0.mk H
   clear H
   go_upto_region 2 with (fail)
   go_cut [12] (fun v12 wc => ∃ (kq : Nat) (x12_1 : Bool), v12 = .bool x12_1 ∧ Aside0 (hucksterlaw05_Light.j1 kq l0 x3_1 x12_1 = some r) ∧ Aside0 (kq ≤ k1) ∧ Drawn0 w wc)
   case first =>
    have H := HC2.out
    clear HC2
    by_cases c3 : x3_1 < (l0.length : Int)
    ·rw [if_pos c3] at H
     have c3b0 : decide (x3_1 < (l0.length : Int)) = true := decide_eq_true c3
     clear c3
     (first | rw [c3b0] | (simp only [i64_w, i32_w]; rw [c3b0]) | skip)
     have H' := Aside0.mk H
     clear H
     go_wp2
     go_meet
     case rel => exact ⟨_, (decide (x3_1 ≤ 40)), z9_1, H', ⟨by have := HK1.out; first | omega | exact Nat.le_refl _⟩, by repeat (first | exact Drawn0.refl _ | apply Drawn0.step)⟩
    ·rw [if_neg c3] at H
     have c3b0 : decide (x3_1 < (l0.length : Int)) = false := decide_eq_false c3
     clear c3
     (first | rw [c3b0] | (simp only [i64_w, i32_w]; rw [c3b0]) | skip)
     have H' := Aside0.mk H
     clear H
     go_wp2
     go_meet
     case rel => exact ⟨_, (false), z9_1, H', ⟨by have := HK1.out; first | omega | exact Nat.le_refl _⟩, by repeat (first | exact Drawn0.refl _ | apply Drawn0.step)⟩
   case rest =>
    clear HC2
    try clear c1
    try clear p2
    try clear c3
    try clear c3b0
    obtain ⟨kq, x12_1, rfl, HA, HJ1, ⟨mc1, rfl⟩⟩ := hcut
    cases kq with
    | zero => exact absurd HA.out (by simp [hucksterlaw05_Light.j1])
    | succ kj1 =>
     have H := HA.out
     clear HA
     simp only [hucksterlaw05_Light.j1] at H
     by_cases c4 : x12_1 = true
     ·subst c4
      have H1 : (if 0 ≤ x3_1 then (if x3_1 < (l0.length : Int) then (if (((rd_T30 l0 x3_1).f1).length : Int) > 20 then (hucksterlaw05_Light.j2 kj1 l0 x3_1 true) else (hucksterlaw05_Light.j2 kj1 l0 x3_1 (decide ((((rd_T30 l0 x3_1).f2).length : Int) > 30)))) else (none)) else (none)) = some r := by rw [if_pos rfl] at H; exact H
      clear H
      have H := H1
      clear H1
      have HC5 := Aside0.mk H
      clear H
      go_upto_region 4 with (fail)
      go_cut [30] (fun v30 wc => ∃ (kq : Nat) (x30_4 : Bool), v30 = .bool x30_4 ∧ Aside0 (hucksterlaw05_Light.j2 kq l0 x3_1 x30_4 = some r) ∧ Aside0 (kq ≤ kj1) ∧ Drawn0 w wc)
      case first =>
       have H := HC5.out
       clear HC5
       by_cases c6 : 0 ≤ x3_1
       ·rw [if_pos c6] at H
        have c6b0 : decide (0 ≤ x3_1) = true := decide_eq_true c6
        clear c6
        (first | rw [c6b0] | (simp only [i64_w, i32_w]; rw [c6b0]) | skip)
        by_cases c7 : x3_1 < (l0.length : Int)
        ·rw [if_pos c7] at H
         have c7b0 : decide (x3_1 < (l0.length : Int)) = true := decide_eq_true c7
         clear c7
         by_cases c8 : (((rd_T30 l0 x3_1).f1).length : Int) > 20
         ·rw [if_pos c8] at H
          have c8b0 : decide (20 < (((rd_T30 l0 x3_1).f1).length : Int)) = true := decide_eq_true c8
          have c8b1 : decide (20 < ((rd_T30 l0 x3_1).f1).length) = true := decide_eq_true (by omega)
          clear c8
          have H' := Aside0.mk H
          clear H
          have p212 : 0 ≤ (x3_1 : Int) := of_decide_eq_true z9_0
          have q212 : x3_1 < (l0.length : Int) := of_decide_eq_true z9_0
          obtain ⟨ad212, A212_2, c212_2, A212_3, c212_3, e212, hx212_0, hx212_1, hx212_2, hx212_3, hl212_2, hi212_2, hl212_3, hi212_3⟩ := at_T30 HR0.out x3_1 p212 q212
          cases e212
          have HR212_2 := Aside0.mk hi212_2
          have HC212_2 := Aside0.mk hl212_2
          clear hi212_2 hl212_2
          have HR212_3 := Aside0.mk hi212_3
          have HC212_3 := Aside0.mk hl212_3
          clear hi212_3 hl212_3
          replace p212 := eq_true p212
          replace q212 := eq_true q212
          go_wp2
          go_meet
          case rel => exact ⟨_, (true), z9_1, H', ⟨by have := HK1.out; have := HJ1.out; first | omega | exact Nat.le_refl _⟩, by repeat (first | exact Drawn0.refl _ | apply Drawn0.step)⟩
         ·rw [if_neg c8] at H
          have c8b0 : decide (20 < (((rd_T30 l0 x3_1).f1).length : Int)) = false := decide_eq_false c8
          have c8b1 : decide (20 < ((rd_T30 l0 x3_1).f1).length) = false := decide_eq_false (by omega)
          clear c8
          have H' := Aside0.mk H
          clear H
          have p212 : 0 ≤ (x3_1 : Int) := of_decide_eq_true z9_0
          have q212 : x3_1 < (l0.length : Int) := of_decide_eq_true z9_0
          obtain ⟨ad212, A212_2, c212_2, A212_3, c212_3, e212, hx212_0, hx212_1, hx212_2, hx212_3, hl212_2, hi212_2, hl212_3, hi212_3⟩ := at_T30 HR0.out x3_1 p212 q212
          cases e212
          have HR212_2 := Aside0.mk hi212_2
          have HC212_2 := Aside0.mk hl212_2
          clear hi212_2 hl212_2
          have HR212_3 := Aside0.mk hi212_3
          have HC212_3 := Aside0.mk hl212_3
          clear hi212_3 hl212_3
          replace p212 := eq_true p212
          replace q212 := eq_true q212
          have p213 : 0 ≤ (x3_1 : Int) := of_decide_eq_true z9_0
          have q213 : x3_1 < (l0.length : Int) := of_decide_eq_true z9_0
          obtain ⟨ad213, A213_2, c213_2, A213_3, c213_3, e213, hx213_0, hx213_1, hx213_2, hx213_3, hl213_2, hi213_2, hl213_3, hi213_3⟩ := at_T30 HR0.out x3_1 p213 q213
          obtain rfl : ad212 = ad213 := (by injection e213)
          have HR213_2 := Aside0.mk hi213_2
          have HC213_2 := Aside0.mk hl213_2
          clear hi213_2 hl213_2
          have HR213_3 := Aside0.mk hi213_3
          have HC213_3 := Aside0.mk hl213_3
          clear hi213_3 hl213_3
          replace p213 := eq_true p213
          replace q213 := eq_true q213
          have ea_ := Option.some.inj (hx212_2.symm.trans hx213_2)
          injection ea_ with ea_ en_ ec_
          subst ea_
          subst ec_
          clear en_
          have ea_ := Option.some.inj (hx212_3.symm.trans hx213_3)
          injection ea_ with ea_ en_ ec_
          subst ea_
          subst ec_
          clear en_
          go_wp2
          go_meet
          case rel => exact ⟨_, (decide ((((rd_T30 l0 x3_1).f2).length : Int) > 30)), z9_1, H', ⟨by have := HK1.out; have := HJ1.out; first | omega | exact Nat.le_refl _⟩, by repeat (first | exact Drawn0.refl _ | apply Drawn0.step)⟩
        ·rw [if_neg c7] at H
         exact absurd H (by simp)
       ·rw [if_neg c6] at H
        exact absurd H (by simp)
      case rest =>
       clear HC5
       try clear c1
       try clear c2
       try clear p2
       try clear q2
       try clear hx2
       try clear c3
       try clear c3b0
       try clear c4
       try clear c6
       try clear c6b0
       try clear c7
       try clear c7b0
       try clear c8
       try clear c8b0
       try clear c8b1
       try clear hx212_0
       try clear hx212_1
       try clear hx212_2
       try clear hx212_3
       try clear hx213_0
       try clear hx213_1
       try clear hx213_2
       try clear hx213_3
       try clear p2
       try clear p212
       try clear p213
       try clear q212
       try clear q213
       obtain ⟨kq, x30_4, rfl, HA, HJ4, ⟨mc4, rfl⟩⟩ := hcut
       cases kq with
       | zero => exact absurd HA.out (by simp [hucksterlaw05_Light.j2])
       | succ kj4 =>
        have H := HA.out
        clear HA
        simp only [hucksterlaw05_Light.j2] at H
        by_cases c9 : x30_4 = true
        ·subst c9
         have H1 : (some false) = some r := by rw [if_pos rfl] at H; exact H
         clear H
         have H := H1
         clear H1
         obtain rfl := Option.some.inj H
         go_wp2
         go_ret
         exact ⟨by first | rfl | (simp; done) | (simp [*]; done), by repeat (first | exact Drawn0.refl _ | apply Drawn0.step)⟩
        ·replace c9 := Bool.eq_false_iff.mpr c9
         subst c9
         have H1 : (hucksterlaw05_Light.l1 kj4 l0 x3_1 0) = some r := by rw [if_neg (show ¬ (false = true) by decide)] at H; exact H
         clear H
         have H := H1
         clear H1
         have H' := Aside0.mk H
         clear H
         go_wp2
         go_loopg [4] kj4 (fun kq v4 w' => ∃ (x4_4 : Int), v4 = .int .i64 x4_4 ∧ Aside0 (hucksterlaw05_Light.l1 kq l0 x3_1 x4_4 = some r) ∧ Aside0 (kq ≤ kj4) ∧ Drawn0 w w')
         case atStart => exact ⟨(0), z9_1, H', ⟨Nat.le_refl _⟩, by repeat (first | exact Drawn0.refl _ | apply Drawn0.step)⟩
         case round =>
          clear H'
          try clear c1
          try clear c2
          try clear p2
          try clear q2
          try clear hx2
          try clear c3
          try clear c3b0
          try clear c4
          try clear c6
          try clear c6b0
          try clear c7
          try clear c7b0
          try clear c8
          try clear c8b0
          try clear c8b1
          try clear c9
          try clear hx212_0
          try clear hx212_1
          try clear hx212_2
          try clear hx212_3
          try clear hx213_0
          try clear hx213_1
          try clear hx213_2
          try clear hx213_3
          try clear p2
          try clear p212
          try clear p213
          try clear q2
          try clear q212
          try clear q213
          obtain ⟨x4_4, rfl, HA, HK4, ⟨m4, rfl⟩⟩ := hrel
          cases gk with
          | zero => exact absurd HA.out (by simp [hucksterlaw05_Light.l1])
          | succ k4 =>
           have H := HA.out
           clear HA
           simp only [hucksterlaw05_Light.l1] at H
           by_cases c10 : 0 ≤ x3_1
           ·rw [if_pos c10] at H
            have c10b0 : decide (0 ≤ x3_1) = true := decide_eq_true c10
            clear c10
            by_cases c11 : x3_1 < (l0.length : Int)
            ·rw [if_pos c11] at H
             have c11b0 : decide (x3_1 < (l0.length : Int)) = true := decide_eq_true c11
             clear c11
             by_cases c12 : x4_4 < (((rd_T30 l0 x3_1).f2).length : Int)
             ·rw [if_pos c12] at H
              have c12b0 : decide (x4_4 < (((rd_T30 l0 x3_1).f2).length : Int)) = true := decide_eq_true c12
              clear c12
              by_cases c13 : 0 ≤ x4_4
              ·rw [if_pos c13] at H
               have c13b0 : decide (0 ≤ x4_4) = true := decide_eq_true c13
               clear c13
               by_cases c14 : (((rd_T48 ((rd_T30 l0 x3_1).f2) x4_4).f2).size : Int) > 100
               ·rw [if_pos c14] at H
                have c14b0 : decide (100 < (((rd_T48 ((rd_T30 l0 x3_1).f2) x4_4).f2).size : Int)) = true := decide_eq_true c14
                have c14b1 : decide (100 < ((rd_T48 ((rd_T30 l0 x3_1).f2) x4_4).f2).size) = true := decide_eq_true (by omega)
                clear c14
                obtain rfl := Option.some.inj H
                have p214 : 0 ≤ (x3_1 : Int) := of_decide_eq_true z9_0
                have q214 : x3_1 < (l0.length : Int) := of_decide_eq_true z9_0
                obtain ⟨ad214, A214_2, c214_2, A214_3, c214_3, e214, hx214_0, hx214_1, hx214_2, hx214_3, hl214_2, hi214_2, hl214_3, hi214_3⟩ := at_T30 HR0.out x3_1 p214 q214
                cases e214
                have HR214_2 := Aside0.mk hi214_2
                have HC214_2 := Aside0.mk hl214_2
                clear hi214_2 hl214_2
                have HR214_3 := Aside0.mk hi214_3
                have HC214_3 := Aside0.mk hl214_3
                clear hi214_3 hl214_3
                replace p214 := eq_true p214
                replace q214 := eq_true q214
                have p215 : 0 ≤ (x3_1 : Int) := of_decide_eq_true z9_0
                have q215 : x3_1 < (l0.length : Int) := of_decide_eq_true z9_0
                obtain ⟨ad215, A215_2, c215_2, A215_3, c215_3, e215, hx215_0, hx215_1, hx215_2, hx215_3, hl215_2, hi215_2, hl215_3, hi215_3⟩ := at_T30 HR0.out x3_1 p215 q215
                obtain rfl : ad214 = ad215 := (by injection e215)
                have HR215_2 := Aside0.mk hi215_2
                have HC215_2 := Aside0.mk hl215_2
                clear hi215_2 hl215_2
                have HR215_3 := Aside0.mk hi215_3
                have HC215_3 := Aside0.mk hl215_3
                clear hi215_3 hl215_3
                replace p215 := eq_true p215
                replace q215 := eq_true q215
                have ea_ := Option.some.inj (hx214_2.symm.trans hx215_2)
                injection ea_ with ea_ en_ ec_
                subst ea_
                subst ec_
                clear en_
                have ea_ := Option.some.inj (hx214_3.symm.trans hx215_3)
                injection ea_ with ea_ en_ ec_
                subst ea_
                subst ec_
                clear en_
                have p216 : 0 ≤ (x4_4 : Int) := of_decide_eq_true z9_0
                have q216 : x4_4 < (((rd_T30 l0 x3_1).f2).length : Int) := of_decide_eq_true z9_0
                obtain ⟨ad216, e216, hx216_0, hx216_1, hx216_2, hx216_3, hx216_4, hx216_5⟩ := at_T48 HR215_3.out x4_4 p216 q216
                cases e216
                replace p216 := eq_true p216
                replace q216 := eq_true q216
                go_wp2
                go_ret
                exact ⟨by first | rfl | (simp; done) | (simp [*]; done), by repeat (first | exact Drawn0.refl _ | apply Drawn0.step)⟩
               ·rw [if_neg c14] at H
                have c14b0 : decide (100 < (((rd_T48 ((rd_T30 l0 x3_1).f2) x4_4).f2).size : Int)) = false := decide_eq_false c14
                have c14b1 : decide (100 < ((rd_T48 ((rd_T30 l0 x3_1).f2) x4_4).f2).size) = false := decide_eq_false (by omega)
                clear c14
                by_cases c15 : (((rd_T48 ((rd_T30 l0 x3_1).f2) x4_4).f5).size : Int) > 100
                ·rw [if_pos c15] at H
                 have c15b0 : decide (100 < (((rd_T48 ((rd_T30 l0 x3_1).f2) x4_4).f5).size : Int)) = true := decide_eq_true c15
                 have c15b1 : decide (100 < ((rd_T48 ((rd_T30 l0 x3_1).f2) x4_4).f5).size) = true := decide_eq_true (by omega)
                 clear c15
                 obtain rfl := Option.some.inj H
                 have p214 : 0 ≤ (x3_1 : Int) := of_decide_eq_true z9_0
                 have q214 : x3_1 < (l0.length : Int) := of_decide_eq_true z9_0
                 obtain ⟨ad214, A214_2, c214_2, A214_3, c214_3, e214, hx214_0, hx214_1, hx214_2, hx214_3, hl214_2, hi214_2, hl214_3, hi214_3⟩ := at_T30 HR0.out x3_1 p214 q214
                 cases e214
                 have HR214_2 := Aside0.mk hi214_2
                 have HC214_2 := Aside0.mk hl214_2
                 clear hi214_2 hl214_2
                 have HR214_3 := Aside0.mk hi214_3
                 have HC214_3 := Aside0.mk hl214_3
                 clear hi214_3 hl214_3
                 replace p214 := eq_true p214
                 replace q214 := eq_true q214
                 have p215 : 0 ≤ (x3_1 : Int) := of_decide_eq_true z9_0
                 have q215 : x3_1 < (l0.length : Int) := of_decide_eq_true z9_0
                 obtain ⟨ad215, A215_2, c215_2, A215_3, c215_3, e215, hx215_0, hx215_1, hx215_2, hx215_3, hl215_2, hi215_2, hl215_3, hi215_3⟩ := at_T30 HR0.out x3_1 p215 q215
                 obtain rfl : ad214 = ad215 := (by injection e215)
                 have HR215_2 := Aside0.mk hi215_2
                 have HC215_2 := Aside0.mk hl215_2
                 clear hi215_2 hl215_2
                 have HR215_3 := Aside0.mk hi215_3
                 have HC215_3 := Aside0.mk hl215_3
                 clear hi215_3 hl215_3
                 replace p215 := eq_true p215
                 replace q215 := eq_true q215
                 have ea_ := Option.some.inj (hx214_2.symm.trans hx215_2)
                 injection ea_ with ea_ en_ ec_
                 subst ea_
                 subst ec_
                 clear en_
                 have ea_ := Option.some.inj (hx214_3.symm.trans hx215_3)
                 injection ea_ with ea_ en_ ec_
                 subst ea_
                 subst ec_
                 clear en_
                 have p216 : 0 ≤ (x4_4 : Int) := of_decide_eq_true z9_0
                 have q216 : x4_4 < (((rd_T30 l0 x3_1).f2).length : Int) := of_decide_eq_true z9_0
                 obtain ⟨ad216, e216, hx216_0, hx216_1, hx216_2, hx216_3, hx216_4, hx216_5⟩ := at_T48 HR215_3.out x4_4 p216 q216
                 cases e216
                 replace p216 := eq_true p216
                 replace q216 := eq_true q216
                 have p217 : 0 ≤ (x3_1 : Int) := of_decide_eq_true z9_0
                 have q217 : x3_1 < (l0.length : Int) := of_decide_eq_true z9_0
                 obtain ⟨ad217, A217_2, c217_2, A217_3, c217_3, e217, hx217_0, hx217_1, hx217_2, hx217_3, hl217_2, hi217_2, hl217_3, hi217_3⟩ := at_T30 HR0.out x3_1 p217 q217
                 obtain rfl : ad214 = ad217 := (by injection e217)
                 have HR217_2 := Aside0.mk hi217_2
                 have HC217_2 := Aside0.mk hl217_2
                 clear hi217_2 hl217_2
                 have HR217_3 := Aside0.mk hi217_3
                 have HC217_3 := Aside0.mk hl217_3
                 clear hi217_3 hl217_3
                 replace p217 := eq_true p217
                 replace q217 := eq_true q217
                 have ea_ := Option.some.inj (hx214_2.symm.trans hx217_2)
                 injection ea_ with ea_ en_ ec_
                 subst ea_
                 subst ec_
                 clear en_
                 have ea_ := Option.some.inj (hx214_3.symm.trans hx217_3)
                 injection ea_ with ea_ en_ ec_
                 subst ea_
                 subst ec_
                 clear en_
                 have p218 : 0 ≤ (x4_4 : Int) := of_decide_eq_true z9_0
                 have q218 : x4_4 < (((rd_T30 l0 x3_1).f2).length : Int) := of_decide_eq_true z9_0
                 obtain ⟨ad218, e218, hx218_0, hx218_1, hx218_2, hx218_3, hx218_4, hx218_5⟩ := at_T48 HR217_3.out x4_4 p218 q218
                 cases e218
                 replace p218 := eq_true p218
                 replace q218 := eq_true q218
                 go_wp2
                 go_ret
                 exact ⟨by first | rfl | (simp; done) | (simp [*]; done), by repeat (first | exact Drawn0.refl _ | apply Drawn0.step)⟩
                ·rw [if_neg c15] at H
                 have c15b0 : decide (100 < (((rd_T48 ((rd_T30 l0 x3_1).f2) x4_4).f5).size : Int)) = false := decide_eq_false c15
                 have c15b1 : decide (100 < ((rd_T48 ((rd_T30 l0 x3_1).f2) x4_4).f5).size) = false := decide_eq_false (by omega)
                 clear c15
                 have H' := Aside0.mk H
                 clear H
                 have p214 : 0 ≤ (x3_1 : Int) := of_decide_eq_true z9_0
                 have q214 : x3_1 < (l0.length : Int) := of_decide_eq_true z9_0
                 obtain ⟨ad214, A214_2, c214_2, A214_3, c214_3, e214, hx214_0, hx214_1, hx214_2, hx214_3, hl214_2, hi214_2, hl214_3, hi214_3⟩ := at_T30 HR0.out x3_1 p214 q214
                 cases e214
                 have HR214_2 := Aside0.mk hi214_2
                 have HC214_2 := Aside0.mk hl214_2
                 clear hi214_2 hl214_2
                 have HR214_3 := Aside0.mk hi214_3
                 have HC214_3 := Aside0.mk hl214_3
                 clear hi214_3 hl214_3
                 replace p214 := eq_true p214
                 replace q214 := eq_true q214
                 have p215 : 0 ≤ (x3_1 : Int) := of_decide_eq_true z9_0
                 have q215 : x3_1 < (l0.length : Int) := of_decide_eq_true z9_0
                 obtain ⟨ad215, A215_2, c215_2, A215_3, c215_3, e215, hx215_0, hx215_1, hx215_2, hx215_3, hl215_2, hi215_2, hl215_3, hi215_3⟩ := at_T30 HR0.out x3_1 p215 q215
                 obtain rfl : ad214 = ad215 := (by injection e215)
                 have HR215_2 := Aside0.mk hi215_2
                 have HC215_2 := Aside0.mk hl215_2
                 clear hi215_2 hl215_2
                 have HR215_3 := Aside0.mk hi215_3
                 have HC215_3 := Aside0.mk hl215_3
                 clear hi215_3 hl215_3
                 replace p215 := eq_true p215
                 replace q215 := eq_true q215
                 have ea_ := Option.some.inj (hx214_2.symm.trans hx215_2)
                 injection ea_ with ea_ en_ ec_
                 subst ea_
                 subst ec_
                 clear en_
                 have ea_ := Option.some.inj (hx214_3.symm.trans hx215_3)
                 injection ea_ with ea_ en_ ec_
                 subst ea_
                 subst ec_
                 clear en_
                 have p216 : 0 ≤ (x4_4 : Int) := of_decide_eq_true z9_0
                 have q216 : x4_4 < (((rd_T30 l0 x3_1).f2).length : Int) := of_decide_eq_true z9_0
                 obtain ⟨ad216, e216, hx216_0, hx216_1, hx216_2, hx216_3, hx216_4, hx216_5⟩ := at_T48 HR215_3.out x4_4 p216 q216
                 cases e216
                 replace p216 := eq_true p216
                 replace q216 := eq_true q216
                 have p217 : 0 ≤ (x3_1 : Int) := of_decide_eq_true z9_0
                 have q217 : x3_1 < (l0.length : Int) := of_decide_eq_true z9_0
                 obtain ⟨ad217, A217_2, c217_2, A217_3, c217_3, e217, hx217_0, hx217_1, hx217_2, hx217_3, hl217_2, hi217_2, hl217_3, hi217_3⟩ := at_T30 HR0.out x3_1 p217 q217
                 obtain rfl : ad214 = ad217 := (by injection e217)
                 have HR217_2 := Aside0.mk hi217_2
                 have HC217_2 := Aside0.mk hl217_2
                 clear hi217_2 hl217_2
                 have HR217_3 := Aside0.mk hi217_3
                 have HC217_3 := Aside0.mk hl217_3
                 clear hi217_3 hl217_3
                 replace p217 := eq_true p217
                 replace q217 := eq_true q217
                 have ea_ := Option.some.inj (hx214_2.symm.trans hx217_2)
                 injection ea_ with ea_ en_ ec_
                 subst ea_
                 subst ec_
                 clear en_
                 have ea_ := Option.some.inj (hx214_3.symm.trans hx217_3)
                 injection ea_ with ea_ en_ ec_
                 subst ea_
                 subst ec_
                 clear en_
                 have p218 : 0 ≤ (x4_4 : Int) := of_decide_eq_true z9_0
                 have q218 : x4_4 < (((rd_T30 l0 x3_1).f2).length : Int) := of_decide_eq_true z9_0
                 obtain ⟨ad218, e218, hx218_0, hx218_1, hx218_2, hx218_3, hx218_4, hx218_5⟩ := at_T48 HR217_3.out x4_4 p218 q218
                 cases e218
                 replace p218 := eq_true p218
                 replace q218 := eq_true q218
                 go_wp2
                 go_roundg k4
                 case measure => have := HK1.out; have := HJ1.out; have := HJ4.out; have := HK4.out; omega
                 case rel => exact ⟨(wrap64 (x4_4 + 1)), z9_1, H', ⟨by have := HK1.out; have := HJ1.out; have := HJ4.out; have := HK4.out; omega⟩, by repeat (first | exact Drawn0.refl _ | apply Drawn0.step)⟩
              ·rw [if_neg c13] at H
               exact absurd H (by simp)
             ·rw [if_neg c12] at H
              have c12b0 : decide (x4_4 < (((rd_T30 l0 x3_1).f2).length : Int)) = false := decide_eq_false c12
              clear c12
              have H' := Aside0.mk H
              clear H
              have p214 : 0 ≤ (x3_1 : Int) := of_decide_eq_true z9_0
              have q214 : x3_1 < (l0.length : Int) := of_decide_eq_true z9_0
              obtain ⟨ad214, A214_2, c214_2, A214_3, c214_3, e214, hx214_0, hx214_1, hx214_2, hx214_3, hl214_2, hi214_2, hl214_3, hi214_3⟩ := at_T30 HR0.out x3_1 p214 q214
              cases e214
              have HR214_2 := Aside0.mk hi214_2
              have HC214_2 := Aside0.mk hl214_2
              clear hi214_2 hl214_2
              have HR214_3 := Aside0.mk hi214_3
              have HC214_3 := Aside0.mk hl214_3
              clear hi214_3 hl214_3
              replace p214 := eq_true p214
              replace q214 := eq_true q214
              go_wp2
              go_roundg k4
              case measure => have := HK1.out; have := HJ1.out; have := HJ4.out; have := HK4.out; omega
              case rel => exact ⟨(wrap64 (x3_1 + 1)), z9_1, H', ⟨by have := HK1.out; have := HJ1.out; have := HJ4.out; have := HK4.out; omega⟩, by repeat (first | exact Drawn0.refl _ | apply Drawn0.step)⟩
            ·rw [if_neg c11] at H
             exact absurd H (by simp)
           ·rw [if_neg c10] at H
            exact absurd H (by simp)
     ·replace c4 := Bool.eq_false_iff.mpr c4
      subst c4
      have H1 : (some (decide ((l0.length : Int) ≤ 40))) = some r := by rw [if_neg (show ¬ (false = true) by decide)] at H; exact H
      clear H
      have H := H1
      clear H1
      obtain rfl := Option.some.inj H
      go_wp2
      go_ret
      exact ⟨by first | rfl | (simp; done) | (simp [*]; done), by repeat (first | exact Drawn0.refl _ | apply Drawn0.step)⟩
end Go.Proofs.Ytgocnchjpecafaa.PEp
