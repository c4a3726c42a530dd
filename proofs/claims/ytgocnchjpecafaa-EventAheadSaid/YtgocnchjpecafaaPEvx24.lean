/- a part -/
import Derived.Test.YtgocnchjpecafaaPEvx0
import Derived.Test.YtgocnchjpecafaaPEvx4
import Derived.Test.YtgocnchjpecafaaPEvx5
import Derived.Test.YtgocnchjpecafaaPEvx11
import Derived.Test.YtgocnchjpecafaaPEvx19
import Derived.Test.YtgocnchjpecafaaPEvx23
namespace Go.Proofs.Ytgocnchjpecafaa.PEv
open Go.RowKit Go.Proofs.YtgocnchjpecafaaW.PrintWords Go.Proofs.YtgocnchjpecafaaW.PrintLast Go.Proofs.YtgocnchjpecafaaW.PrintMore
attribute [local go_sem] max2_int min2_int max_two min_two max_three min_three max_four min_four
set_option linter.unusedVariables false
set_option linter.unusedSimpArgs false
theorem z24_0 {P : Prop} (h : P := by simp only [Act.put, List.setIfInBounds_toArray, List.set_cons_zero, List.set_cons_succ, i64_w, i32_w]; rfl) : P := h
theorem z24_1 {P : Prop} (h : P := by (try simp only [List.map_toArray, List.map_cons, List.map_nil]); first | done | rfl | (simp only [List.length_drop, List.length_take]; rfl)) : P := h
theorem z24_2 {P : Prop} (h : P := by repeat (first | (with_reducible first | exact HB.out | apply below_alloc | apply pw_below_drewN | apply below_drew1) | exact HB.out)) : P := h
theorem z24_3 {P : Prop} (h : P := by first | (with_reducible assumption) | assumption) : P := h
theorem z24_4 {P : Prop} (h : P := by kernel_rfl) : P := h
theorem z24_5 {P : Prop} (h : P := by repeat (first | (with_reducible exact HR534_2.out) | (with_reducible refine Kd.C_alloc ?_ _) | (with_reducible refine Kd.C_drewN ?_ _) | (with_reducible refine Kd.C_drew ?_) | exact HR534_2.out)) : P := h
theorem z24_6 {P : Prop} (h : P := by repeat (first | (with_reducible exact HR534_3.out) | (with_reducible refine Kd.C_alloc ?_ _) | (with_reducible refine Kd.C_drewN ?_ _) | (with_reducible refine Kd.C_drew ?_) | exact HR534_3.out)) : P := h
theorem z24_7 {P : Prop} (h : P := by repeat (first | (with_reducible exact HR535_2.out) | (with_reducible refine Kd.C_alloc ?_ _) | (with_reducible refine Kd.C_drewN ?_ _) | (with_reducible refine Kd.C_drew ?_) | exact HR535_2.out)) : P := h
theorem z24_8 {P : Prop} (h : P := by repeat (first | (with_reducible exact HR535_3.out) | (with_reducible refine Kd.C_alloc ?_ _) | (with_reducible refine Kd.C_drewN ?_ _) | (with_reducible refine Kd.C_drew ?_) | exact HR535_3.out)) : P := h
theorem z24_9 {P : Prop} (h : P := by repeat (first | exact (Kd.C_below HR523_2.out HB.out) | (with_reducible refine Kd.C_alloc ?_ _) | (with_reducible refine Kd.C_drewN ?_ _) | (with_reducible refine Kd.C_drew ?_))) : P := h
theorem z24_10 {P : Prop} (h : P := by repeat (first | exact (Kd.C_below HR523_3.out HB.out) | (with_reducible refine Kd.C_alloc ?_ _) | (with_reducible refine Kd.C_drewN ?_ _) | (with_reducible refine Kd.C_drew ?_))) : P := h
theorem z24_11 {P : Prop} (h : P := by repeat (first | exact (Kd.C_below HR524_2.out HB.out) | (with_reducible refine Kd.C_alloc ?_ _) | (with_reducible refine Kd.C_drewN ?_ _) | (with_reducible refine Kd.C_drew ?_))) : P := h
theorem z24_12 {P : Prop} (h : P := by repeat (first | exact (Kd.C_below HR524_3.out HB.out) | (with_reducible refine Kd.C_alloc ?_ _) | (with_reducible refine Kd.C_drewN ?_ _) | (with_reducible refine Kd.C_drew ?_))) : P := h
theorem z24_13 {P : Prop} (h : P := by first | rfl | (simp; done) | (simp [*]; done)) : P := h
theorem z24_14 {P : Prop} (h : P := by show Act.put _ (some 39) _ = _; simp only [Act.put, List.setIfInBounds_toArray, List.set_cons_zero, List.set_cons_succ, i64_w, i32_w]; rfl) : P := h
theorem z24_15 {P : Prop} (h : P := by (with_reducible repeat (first | apply Kd.N_alloc | apply Kd.N_drewN | apply Kd.N_drew)); exact HO_5.out) : P := h
theorem z24_16 {P : Prop} (h : P := by repeat (first | exact (Kd.C_below HR520_2.out HB.out) | (with_reducible refine Kd.C_alloc ?_ _) | (with_reducible refine Kd.C_drewN ?_ _) | (with_reducible refine Kd.C_drew ?_))) : P := h
theorem z24_17 {P : Prop} (h : P := by repeat (first | exact (Kd.C_below HR520_3.out HB.out) | (with_reducible refine Kd.C_alloc ?_ _) | (with_reducible refine Kd.C_drewN ?_ _) | (with_reducible refine Kd.C_drew ?_))) : P := h
theorem z24_18 {P : Prop} (h : P := by repeat (first | exact (Kd.C_below HR526_2.out HB.out) | (with_reducible refine Kd.C_alloc ?_ _) | (with_reducible refine Kd.C_drewN ?_ _) | (with_reducible refine Kd.C_drew ?_))) : P := h
theorem z24_19 {P : Prop} (h : P := by repeat (first | exact (Kd.C_below HR527_2.out HB.out) | (with_reducible refine Kd.C_alloc ?_ _) | (with_reducible refine Kd.C_drewN ?_ _) | (with_reducible refine Kd.C_drew ?_))) : P := h
theorem z24_20 {P : Prop} (h : P := by repeat (first | exact HR0.out | (with_reducible refine Kd.C_alloc ?_ _) | (with_reducible refine Kd.C_drewN ?_ _) | (with_reducible refine Kd.C_drew ?_))) : P := h
theorem z24_21 {P : Prop} (h : P := by repeat (first | exact z24_5 | (with_reducible refine Kd.C_alloc ?_ _) | (with_reducible refine Kd.C_drewN ?_ _) | (with_reducible refine Kd.C_drew ?_))) : P := h
theorem z24_22 {P : Prop} (h : P := by repeat (first | exact z24_6 | (with_reducible refine Kd.C_alloc ?_ _) | (with_reducible refine Kd.C_drewN ?_ _) | (with_reducible refine Kd.C_drew ?_))) : P := h
theorem z24_23 {P : Prop} (h : P := by repeat (first | exact z24_7 | (with_reducible refine Kd.C_alloc ?_ _) | (with_reducible refine Kd.C_drewN ?_ _) | (with_reducible refine Kd.C_drew ?_))) : P := h
theorem z24_24 {P : Prop} (h : P := by repeat (first | exact z24_8 | (with_reducible refine Kd.C_alloc ?_ _) | (with_reducible refine Kd.C_drewN ?_ _) | (with_reducible refine Kd.C_drew ?_))) : P := h
mutual
def hucksterlaw05_EventAhead.l0 : Nat → List (S30) → Int → Option (Bool)
 | 0, _, _ => none
 | k + 1, x0, x3 => if x3 < (x0.length : Int) then (if 0 ≤ x3 then ((hucksterref05_May.f k ((rd_T30 x0 x3).f0.f0) ((rd_T30 x0 x3).f0.f1) ((rd_T30 x0 x3).f1) ((rd_T30 x0 x3).f2)).bind fun t521 => (if t521 = true then (hucksterlaw05_EventAhead.l1 k x0 x3 0) else ((hucksterlaw05_awake.f k).bind fun t522 => (some t522)))) else (none)) else ((event_Order.f x0).bind fun t530 => (hucksterlaw05_EventAhead.l2 k x0 t530 0))
def hucksterlaw05_EventAhead.l1 : Nat → List (S30) → Int → Int → Option (Bool)
 | 0, _, _, _ => none
 | k + 1, x0, x3, x4 => if x4 < (x0.length : Int) then (if 0 ≤ x4 then (if 0 ≤ x3 then (if x3 < (x0.length : Int) then ((hucksterref05_Ahead.f k ((rd_T30 x0 x4).f0.f0) ((rd_T30 x0 x4).f0.f1) ((rd_T30 x0 x4).f1) ((rd_T30 x0 x4).f2) ((rd_T30 x0 x3).f0.f0) ((rd_T30 x0 x3).f0.f1) ((rd_T30 x0 x3).f1) ((rd_T30 x0 x3).f2)).bind fun t525 => (if t525 = true then ((hucksterref03_Within.f k ((rd_T30 x0 x4).f1) ((rd_T30 x0 x3).f1)).bind fun t528 => (if t528 = true then (hucksterlaw05_EventAhead.l1 k x0 x3 (wrap64 (x4 + 1))) else ((hucksterlaw05_awake.f k).bind fun t529 => (some t529)))) else (hucksterlaw05_EventAhead.l1 k x0 x3 (wrap64 (x4 + 1))))) else (none)) else (none)) else (none)) else (hucksterlaw05_EventAhead.l0 k x0 (wrap64 (x3 + 1)))
def hucksterlaw05_EventAhead.l2 : Nat → List (S30) → List (S30) → Int → Option (Bool)
 | 0, _, _, _ => none
 | k + 1, x0, x5, x6 => if x6 < (x5.length : Int) then (hucksterlaw05_EventAhead.l3 k x0 x5 x6 0) else (if (x5.length : Int) = (x0.length : Int) then ((hucksterlaw05_awake.f k).bind fun t533 => (some t533)) else (some false))
def hucksterlaw05_EventAhead.l3 : Nat → List (S30) → List (S30) → Int → Int → Option (Bool)
 | 0, _, _, _, _ => none
 | k + 1, x0, x5, x6, x7 => if x7 < x6 then (if 0 ≤ x6 then (if x6 < (x5.length : Int) then (if 0 ≤ x7 then (if x7 < (x5.length : Int) then ((event_Ahead.f ((rd_T30 x5 x6).f0.f0) ((rd_T30 x5 x6).f0.f1) ((rd_T30 x5 x6).f1) ((rd_T30 x5 x6).f2) ((rd_T30 x5 x7).f0.f0) ((rd_T30 x5 x7).f0.f1) ((rd_T30 x5 x7).f1) ((rd_T30 x5 x7).f2)).bind fun t536 => (if t536 = true then (some false) else (hucksterlaw05_EventAhead.l3 k x0 x5 x6 (wrap64 (x7 + 1))))) else (none)) else (none)) else (none)) else (none)) else (hucksterlaw05_EventAhead.l2 k x0 x5 (wrap64 (x6 + 1)))
end
def hucksterlaw05_EventAhead.f (k : Nat) (l0 : List (S30)) : Option (Bool) := (hucksterlaw05_Light.f k l0).bind fun t518 => (if t518 = true then (hucksterlaw05_EventAhead.l0 k l0 0) else ((hucksterlaw05_awake.f k).bind fun t519 => (some t519)))
def hucksterlaw05_EventAhead.T11 : Bool × List (List Nat × List Nat) := (true, [([], []), ([], []), ([0, 1], [0, 1]), ([2], [2]), ([], []), ([], []), ([4, 5], [4, 5]), ([6], [6]), ([3, 7], [3, 7]), ([8, 8], [8]), ([9], [9]), ([9], [9]), ([10, 11, 9], [9, 10, 11]), ([12, 9], [9, 12]), ([13, 9], [9, 13]), ([9], [9]), ([9], [9]), ([15, 16, 9], [9, 15, 16]), ([17, 9], [9, 17]), ([18, 9], [9, 18]), ([14, 19, 9, 9], [9, 14, 19]), ([20, 9], [9, 20]), ([9, 21], [9, 21])])
def hucksterlaw05_EventAhead.B11 : List Nat := [0, 0, 3, 7, 0, 0, 48, 112, 255, 511, 1023, 1023, 4095, 8191, 16383, 1023, 1023, 99327, 230399, 492543, 1048575, 2097151, 4194303]
theorem hucksterlaw05_EventAhead.tab11 : rtab .any (opsOf Try.f4 11) = hucksterlaw05_EventAhead.T11 := by kernel_rfl
theorem hucksterlaw05_EventAhead.bits11 : waitsOk hucksterlaw05_EventAhead.T11.2 hucksterlaw05_EventAhead.B11 = true := by kernel_rfl
def hucksterlaw05_EventAhead.T20 : Bool × List (List Nat × List Nat) := (true, [([], []), ([], []), ([0, 1], [0, 1]), ([2], [2]), ([], []), ([], []), ([4, 5], [4, 5]), ([6], [6]), ([3, 7], [3, 7])])
def hucksterlaw05_EventAhead.B20 : List Nat := [0, 0, 3, 7, 0, 0, 48, 112, 255]
theorem hucksterlaw05_EventAhead.tab20 : rtab .any (opsOf Try.f4 20) = hucksterlaw05_EventAhead.T20 := by kernel_rfl
theorem hucksterlaw05_EventAhead.bits20 : waitsOk hucksterlaw05_EventAhead.T20.2 hucksterlaw05_EventAhead.B20 = true := by kernel_rfl
set_option maxHeartbeats 8000000 in
set_option maxRecDepth 100000 in
theorem hucksterlaw05_EventAhead.calls (k : Nat) (A0 : Option Addr) (c0 : Nat) (l0 : List (S30)) (r : Bool) (w : World) (hr0 : Kd.C k30 w A0 l0.length l0) (hc0 : l0.length ≤ c0) (h : hucksterlaw05_EventAhead.f k l0 = some r) :
  Calls Try.prog 4 #[.slice A0 l0.length c0] w fun e w' => e = .returned (.bool r) ∧ Below w.heap.size w w' := by
 have hu30 := Try.underlying30
 have HR0 := Aside0.mk hr0
 have HC0 := Aside0.mk hc0
 clear hr0 hc0
 have HB := Aside0.mk (Below.refl w.heap.size w)
 have H : ((hucksterlaw05_Light.f k l0).bind fun t518 => (if t518 = true then (hucksterlaw05_EventAhead.l0 k l0 0) else ((hucksterlaw05_awake.f k).bind fun t519 => (some t519)))) = some r := h
 clear h
 replace H := Option.bind_eq_some_iff.mp H
 obtain ⟨t518, A20, H⟩ := H
 replace H : (if t518 = true then (hucksterlaw05_EventAhead.l0 k l0 0) else ((hucksterlaw05_awake.f k).bind fun t519 => (some t519))) = some r := H
 have A2 := Aside0.mk A20
 clear A20
 by_cases c3 : t518 = true
 ·subst c3
  have H1 : (hucksterlaw05_EventAhead.l0 k l0 0) = some r := by rw [if_pos rfl] at H; exact H
  clear H
  have H := H1
  clear H1
  have H' := Aside0.mk H
  clear H
  go_enter Try.func4, Try.ntmps4
  go_wp2_with (first | ((with_reducible refine gate_callee (f := 16) rfl ?_); refine goesL_ (some 9) rfl rfl Try.func16 z24_4 rfl #[.slice A0 l0.length c0] rfl z24_1 ?_; (with_reducible refine (hucksterlaw05_Light.calls k _ _ l0 true _ ?side1 ?side2 A2.out).mono ?_); (case side1 => exact z24_20); (case side2 => exact HC0.out); rintro e w' ⟨rfl, ⟨nd, rfl⟩⟩; refine ⟨_, rfl, ?_⟩))
  go_loopg [3] k (fun kq v3 w' => ∃ (x3_1 : Int), v3 = .int .i64 x3_1 ∧ Aside0 (hucksterlaw05_EventAhead.l0 kq l0 x3_1 = some r) ∧ Aside0 (kq ≤ k) ∧ Aside0 (Below w.heap.size w w'))
  case atStart => exact ⟨(0), z24_13, H', ⟨Nat.le_refl _⟩, ⟨by repeat (first | (with_reducible first | exact HB.out | apply below_alloc | apply pw_below_drewN | apply below_drew1) | exact HB.out)⟩⟩
  case round =>
   clear H'
   try clear c1
   try clear p2
   try clear c3
   obtain ⟨x3_1, rfl, HA, HK1, HB⟩ := hrel
   cases gk with
   | zero => exact absurd HA.out (by simp [hucksterlaw05_EventAhead.l0])
   | succ k1 =>
    have H := HA.out
    clear HA
    simp only [hucksterlaw05_EventAhead.l0] at H
    by_cases c4 : x3_1 < (l0.length : Int)
    ·rw [if_pos c4] at H
     have c4b0 : decide (x3_1 < (l0.length : Int)) = true := decide_eq_true c4
     clear c4
     by_cases c5 : 0 ≤ x3_1
     ·rw [if_pos c5] at H
      have c5b0 : decide (0 ≤ x3_1) = true := decide_eq_true c5
      clear c5
      replace H := Option.bind_eq_some_iff.mp H
      obtain ⟨t521, A60, H⟩ := H
      replace H : (if t521 = true then (hucksterlaw05_EventAhead.l1 k1 l0 x3_1 0) else ((hucksterlaw05_awake.f k1).bind fun t522 => (some t522))) = some r := H
      have A6 := Aside0.mk A60
      clear A60
      by_cases c7 : t521 = true
      ·subst c7
       have H1 : (hucksterlaw05_EventAhead.l1 k1 l0 x3_1 0) = some r := by rw [if_pos rfl] at H; exact H
       clear H
       have H := H1
       clear H1
       have H' := Aside0.mk H
       clear H
       have p520 : 0 ≤ (x3_1 : Int) := of_decide_eq_true z24_3
       have q520 : x3_1 < (l0.length : Int) := of_decide_eq_true z24_3
       obtain ⟨ad520, A520_2, c520_2, A520_3, c520_3, e520, hx520_0, hx520_1, hx520_2, hx520_3, hl520_2, hi520_2, hl520_3, hi520_3⟩ := at_T30 HR0.out x3_1 p520 q520
       cases e520
       replace hx520_0 := (HB.out.cell (World.block_lt_of_cell? w _ hx520_0)).trans hx520_0
       replace hx520_1 := (HB.out.cell (World.block_lt_of_cell? w _ hx520_1)).trans hx520_1
       replace hx520_2 := (HB.out.cell (World.block_lt_of_cell? w _ hx520_2)).trans hx520_2
       replace hx520_3 := (HB.out.cell (World.block_lt_of_cell? w _ hx520_3)).trans hx520_3
       have HR520_2 := Aside0.mk hi520_2
       have HC520_2 := Aside0.mk hl520_2
       clear hi520_2 hl520_2
       have HR520_3 := Aside0.mk hi520_3
       have HC520_3 := Aside0.mk hl520_3
       clear hi520_3 hl520_3
       replace p520 := eq_true p520
       replace q520 := eq_true q520
       go_wp2_with (first | ((with_reducible refine gate_callee (f := 17) rfl ?_); refine goesL_ (some 22) rfl rfl Try.func17 z24_4 rfl #[.agg #[.int .i64 ((rd_T30 l0 x3_1).f0.f0), .int .i64 ((rd_T30 l0 x3_1).f0.f1), .slice A520_2 ((rd_T30 l0 x3_1).f1).length c520_2, .slice A520_3 ((rd_T30 l0 x3_1).f2).length c520_3]] rfl z24_1 ?_; (with_reducible refine (hucksterref05_May.calls k1 ((rd_T30 l0 x3_1).f0.f0) ((rd_T30 l0 x3_1).f0.f1) _ _ ((rd_T30 l0 x3_1).f1) _ _ ((rd_T30 l0 x3_1).f2) true _ ?side1 ?side2 ?side3 ?side4 A6.out).mono ?_); (case side1 => exact z24_16); (case side2 => exact HC520_2.out); (case side3 => exact z24_17); (case side4 => exact HC520_3.out); rintro e w8 ⟨rfl, hb⟩; refine ⟨_, rfl, ?_⟩; have n0_ := Aside0.mk (below_step z24_2 hb); clear HB; have HB := n0_; clear n0_; (try clear hb); (try clear hb2); (try clear hk); (try clear hi)))
       go_loopg [4] k1 (fun kq v4 w' => ∃ (x4_2 : Int), v4 = .int .i64 x4_2 ∧ Aside0 (hucksterlaw05_EventAhead.l1 kq l0 x3_1 x4_2 = some r) ∧ Aside0 (kq ≤ k1) ∧ Aside0 (Below w.heap.size w w'))
       case atStart => exact ⟨(0), z24_13, H', ⟨Nat.le_refl _⟩, ⟨by repeat (first | (with_reducible first | exact HB.out | apply below_alloc | apply pw_below_drewN | apply below_drew1) | exact HB.out)⟩⟩
       case round =>
        clear H'
        try clear c1
        try clear p2
        try clear c3
        try clear c4
        try clear c4b0
        try clear c5
        try clear c5b0
        try clear p5
        try clear q5
        try clear hx5
        try clear c7
        try clear hx520_0
        try clear hx520_1
        try clear hx520_2
        try clear hx520_3
        try clear p2
        try clear p520
        try clear q520
        obtain ⟨x4_2, rfl, HA, HK2, HB⟩ := hrel
        cases gk with
        | zero => exact absurd HA.out (by simp [hucksterlaw05_EventAhead.l1])
        | succ k2 =>
         have H := HA.out
         clear HA
         simp only [hucksterlaw05_EventAhead.l1] at H
         by_cases c9 : x4_2 < (l0.length : Int)
         ·rw [if_pos c9] at H
          have c9b0 : decide (x4_2 < (l0.length : Int)) = true := decide_eq_true c9
          clear c9
          by_cases c10 : 0 ≤ x4_2
          ·rw [if_pos c10] at H
           have c10b0 : decide (0 ≤ x4_2) = true := decide_eq_true c10
           clear c10
           by_cases c11 : 0 ≤ x3_1
           ·rw [if_pos c11] at H
            have c11b0 : decide (0 ≤ x3_1) = true := decide_eq_true c11
            clear c11
            by_cases c12 : x3_1 < (l0.length : Int)
            ·rw [if_pos c12] at H
             have c12b0 : decide (x3_1 < (l0.length : Int)) = true := decide_eq_true c12
             clear c12
             replace H := Option.bind_eq_some_iff.mp H
             obtain ⟨t525, A130, H⟩ := H
             replace H : (if t525 = true then ((hucksterref03_Within.f k2 ((rd_T30 l0 x4_2).f1) ((rd_T30 l0 x3_1).f1)).bind fun t528 => (if t528 = true then (hucksterlaw05_EventAhead.l1 k2 l0 x3_1 (wrap64 (x4_2 + 1))) else ((hucksterlaw05_awake.f k2).bind fun t529 => (some t529)))) else (hucksterlaw05_EventAhead.l1 k2 l0 x3_1 (wrap64 (x4_2 + 1)))) = some r := H
             have A13 := Aside0.mk A130
             clear A130
             by_cases c14 : t525 = true
             ·subst c14
              have H1 : ((hucksterref03_Within.f k2 ((rd_T30 l0 x4_2).f1) ((rd_T30 l0 x3_1).f1)).bind fun t528 => (if t528 = true then (hucksterlaw05_EventAhead.l1 k2 l0 x3_1 (wrap64 (x4_2 + 1))) else ((hucksterlaw05_awake.f k2).bind fun t529 => (some t529)))) = some r := by rw [if_pos rfl] at H; exact H
              clear H
              have H := H1
              clear H1
              replace H := Option.bind_eq_some_iff.mp H
              obtain ⟨t528, A150, H⟩ := H
              replace H : (if t528 = true then (hucksterlaw05_EventAhead.l1 k2 l0 x3_1 (wrap64 (x4_2 + 1))) else ((hucksterlaw05_awake.f k2).bind fun t529 => (some t529))) = some r := H
              have A15 := Aside0.mk A150
              clear A150
              by_cases c16 : t528 = true
              ·subst c16
               have H1 : (hucksterlaw05_EventAhead.l1 k2 l0 x3_1 (wrap64 (x4_2 + 1))) = some r := by rw [if_pos rfl] at H; exact H
               clear H
               have H := H1
               clear H1
               have H' := Aside0.mk H
               clear H
               try go_wp2
               have n0_ := Aside0.mk (below_drew1 HB.out)
               clear HB
               have HB := n0_
               clear n0_
               have p523 : 0 ≤ (x4_2 : Int) := of_decide_eq_true z24_3
               have q523 : x4_2 < (l0.length : Int) := of_decide_eq_true z24_3
               obtain ⟨ad523, A523_2, c523_2, A523_3, c523_3, e523, hx523_0, hx523_1, hx523_2, hx523_3, hl523_2, hi523_2, hl523_3, hi523_3⟩ := at_T30 HR0.out x4_2 p523 q523
               have hw523_3 := hx523_3
               have hw523_2 := hx523_2
               have hw523_1 := hx523_1
               have hw523_0 := hx523_0
               obtain rfl : ad520 = ad523 := (by injection e523)
               replace hx523_0 := (HB.out.cell (World.block_lt_of_cell? w _ hx523_0)).trans hx523_0
               replace hx523_1 := (HB.out.cell (World.block_lt_of_cell? w _ hx523_1)).trans hx523_1
               replace hx523_2 := (HB.out.cell (World.block_lt_of_cell? w _ hx523_2)).trans hx523_2
               replace hx523_3 := (HB.out.cell (World.block_lt_of_cell? w _ hx523_3)).trans hx523_3
               have HR523_2 := Aside0.mk hi523_2
               have HC523_2 := Aside0.mk hl523_2
               clear hi523_2 hl523_2
               have HR523_3 := Aside0.mk hi523_3
               have HC523_3 := Aside0.mk hl523_3
               clear hi523_3 hl523_3
               replace p523 := eq_true p523
               replace q523 := eq_true q523
               have p524 : 0 ≤ (x3_1 : Int) := of_decide_eq_true z24_3
               have q524 : x3_1 < (l0.length : Int) := of_decide_eq_true z24_3
               obtain ⟨ad524, A524_2, c524_2, A524_3, c524_3, e524, hx524_0, hx524_1, hx524_2, hx524_3, hl524_2, hi524_2, hl524_3, hi524_3⟩ := at_T30 HR0.out x3_1 p524 q524
               have hw524_3 := hx524_3
               have hw524_2 := hx524_2
               have hw524_1 := hx524_1
               have hw524_0 := hx524_0
               obtain rfl : ad520 = ad524 := (by injection e524)
               replace hx524_0 := (HB.out.cell (World.block_lt_of_cell? w _ hx524_0)).trans hx524_0
               replace hx524_1 := (HB.out.cell (World.block_lt_of_cell? w _ hx524_1)).trans hx524_1
               replace hx524_2 := (HB.out.cell (World.block_lt_of_cell? w _ hx524_2)).trans hx524_2
               replace hx524_3 := (HB.out.cell (World.block_lt_of_cell? w _ hx524_3)).trans hx524_3
               have HR524_2 := Aside0.mk hi524_2
               have HC524_2 := Aside0.mk hl524_2
               clear hi524_2 hl524_2
               have HR524_3 := Aside0.mk hi524_3
               have HC524_3 := Aside0.mk hl524_3
               clear hi524_3 hl524_3
               replace p524 := eq_true p524
               replace q524 := eq_true q524
               have p526 : 0 ≤ (x4_2 : Int) := of_decide_eq_true z24_3
               have q526 : x4_2 < (l0.length : Int) := of_decide_eq_true z24_3
               obtain ⟨ad526, A526_2, c526_2, A526_3, c526_3, e526, hx526_0, hx526_1, hx526_2, hx526_3, hl526_2, hi526_2, hl526_3, hi526_3⟩ := at_T30 HR0.out x4_2 p526 q526
               have hw526_3 := hx526_3
               have hw526_2 := hx526_2
               have hw526_1 := hx526_1
               have hw526_0 := hx526_0
               obtain rfl : ad520 = ad526 := (by injection e526)
               obtain ⟨rfl, rfl⟩ : A523_2 = A526_2 ∧ c523_2 = c526_2 := by have h_ := Option.some.inj (hw523_2.symm.trans hw526_2); injection h_ with h1_ h2_ h3_; exact ⟨h1_, h3_⟩
               obtain ⟨rfl, rfl⟩ : A523_3 = A526_3 ∧ c523_3 = c526_3 := by have h_ := Option.some.inj (hw523_3.symm.trans hw526_3); injection h_ with h1_ h2_ h3_; exact ⟨h1_, h3_⟩
               replace hx526_0 := (HB.out.cell (World.block_lt_of_cell? w _ hx526_0)).trans hx526_0
               replace hx526_1 := (HB.out.cell (World.block_lt_of_cell? w _ hx526_1)).trans hx526_1
               replace hx526_2 := (HB.out.cell (World.block_lt_of_cell? w _ hx526_2)).trans hx526_2
               replace hx526_3 := (HB.out.cell (World.block_lt_of_cell? w _ hx526_3)).trans hx526_3
               have HR526_2 := Aside0.mk hi526_2
               have HC526_2 := Aside0.mk hl526_2
               clear hi526_2 hl526_2
               have HR526_3 := Aside0.mk hi526_3
               have HC526_3 := Aside0.mk hl526_3
               clear hi526_3 hl526_3
               replace p526 := eq_true p526
               replace q526 := eq_true q526
               have p527 : 0 ≤ (x3_1 : Int) := of_decide_eq_true z24_3
               have q527 : x3_1 < (l0.length : Int) := of_decide_eq_true z24_3
               obtain ⟨ad527, A527_2, c527_2, A527_3, c527_3, e527, hx527_0, hx527_1, hx527_2, hx527_3, hl527_2, hi527_2, hl527_3, hi527_3⟩ := at_T30 HR0.out x3_1 p527 q527
               have hw527_3 := hx527_3
               have hw527_2 := hx527_2
               have hw527_1 := hx527_1
               have hw527_0 := hx527_0
               obtain rfl : ad520 = ad527 := (by injection e527)
               obtain ⟨rfl, rfl⟩ : A524_2 = A527_2 ∧ c524_2 = c527_2 := by have h_ := Option.some.inj (hw524_2.symm.trans hw527_2); injection h_ with h1_ h2_ h3_; exact ⟨h1_, h3_⟩
               obtain ⟨rfl, rfl⟩ : A524_3 = A527_3 ∧ c524_3 = c527_3 := by have h_ := Option.some.inj (hw524_3.symm.trans hw527_3); injection h_ with h1_ h2_ h3_; exact ⟨h1_, h3_⟩
               replace hx527_0 := (HB.out.cell (World.block_lt_of_cell? w _ hx527_0)).trans hx527_0
               replace hx527_1 := (HB.out.cell (World.block_lt_of_cell? w _ hx527_1)).trans hx527_1
               replace hx527_2 := (HB.out.cell (World.block_lt_of_cell? w _ hx527_2)).trans hx527_2
               replace hx527_3 := (HB.out.cell (World.block_lt_of_cell? w _ hx527_3)).trans hx527_3
               have HR527_2 := Aside0.mk hi527_2
               have HC527_2 := Aside0.mk hl527_2
               clear hi527_2 hl527_2
               have HR527_3 := Aside0.mk hi527_3
               have HC527_3 := Aside0.mk hl527_3
               clear hi527_3 hl527_3
               replace p527 := eq_true p527
               replace q527 := eq_true q527
               refine start_ (n := 23) (S := fun w' => w'.cell? (ad520.add ((x4_2).toNat * 4)) = some (.int .i64 ((rd_T30 l0 x4_2).f0.f0)) ∧ w'.cell? ⟨(ad520.add ((x4_2).toNat * 4)).block, (ad520.add ((x4_2).toNat * 4)).off + 1, none⟩ = some (.int .i64 ((rd_T30 l0 x4_2).f0.f1)) ∧ w'.cell? ⟨(ad520.add ((x4_2).toNat * 4)).block, (ad520.add ((x4_2).toNat * 4)).off + 2, none⟩ = some (.slice A523_2 ((rd_T30 l0 x4_2).f1).length c523_2) ∧ w'.cell? ⟨(ad520.add ((x4_2).toNat * 4)).block, (ad520.add ((x4_2).toNat * 4)).off + 3, none⟩ = some (.slice A523_3 ((rd_T30 l0 x4_2).f2).length c523_3) ∧ w'.cell? (ad520.add ((x3_1).toNat * 4)) = some (.int .i64 ((rd_T30 l0 x3_1).f0.f0)) ∧ w'.cell? ⟨(ad520.add ((x3_1).toNat * 4)).block, (ad520.add ((x3_1).toNat * 4)).off + 1, none⟩ = some (.int .i64 ((rd_T30 l0 x3_1).f0.f1)) ∧ w'.cell? ⟨(ad520.add ((x3_1).toNat * 4)).block, (ad520.add ((x3_1).toNat * 4)).off + 2, none⟩ = some (.slice A524_2 ((rd_T30 l0 x3_1).f1).length c524_2) ∧ w'.cell? ⟨(ad520.add ((x3_1).toNat * 4)).block, (ad520.add ((x3_1).toNat * 4)).off + 3, none⟩ = some (.slice A524_3 ((rd_T30 l0 x3_1).f2).length c524_3) ∧ w'.cell? (ad520.add ((x4_2).toNat * 4)) = some (.int .i64 ((rd_T30 l0 x4_2).f0.f0)) ∧ w'.cell? ⟨(ad520.add ((x4_2).toNat * 4)).block, (ad520.add ((x4_2).toNat * 4)).off + 1, none⟩ = some (.int .i64 ((rd_T30 l0 x4_2).f0.f1)) ∧ w'.cell? ⟨(ad520.add ((x4_2).toNat * 4)).block, (ad520.add ((x4_2).toNat * 4)).off + 2, none⟩ = some (.slice A523_2 ((rd_T30 l0 x4_2).f1).length c523_2) ∧ w'.cell? ⟨(ad520.add ((x4_2).toNat * 4)).block, (ad520.add ((x4_2).toNat * 4)).off + 3, none⟩ = some (.slice A523_3 ((rd_T30 l0 x4_2).f2).length c523_3) ∧ w'.cell? (ad520.add ((x3_1).toNat * 4)) = some (.int .i64 ((rd_T30 l0 x3_1).f0.f0)) ∧ w'.cell? ⟨(ad520.add ((x3_1).toNat * 4)).block, (ad520.add ((x3_1).toNat * 4)).off + 1, none⟩ = some (.int .i64 ((rd_T30 l0 x3_1).f0.f1)) ∧ w'.cell? ⟨(ad520.add ((x3_1).toNat * 4)).block, (ad520.add ((x3_1).toNat * 4)).off + 2, none⟩ = some (.slice A524_2 ((rd_T30 l0 x3_1).f1).length c524_2) ∧ w'.cell? ⟨(ad520.add ((x3_1).toNat * 4)).block, (ad520.add ((x3_1).toNat * 4)).off + 3, none⟩ = some (.slice A524_3 ((rd_T30 l0 x3_1).f2).length c524_3)) (ds := []) #[false, false, false, false, false, false, false, false, false, false, false, false, false, false, false, false, false, false, false, false, false, false, false] z24_4 rfl rfl ⟨((HB.out.cell (World.block_lt_of_cell? w _ hw523_0)).trans hw523_0), ((HB.out.cell (World.block_lt_of_cell? w _ hw523_1)).trans hw523_1), ((HB.out.cell (World.block_lt_of_cell? w _ hw523_2)).trans hw523_2), ((HB.out.cell (World.block_lt_of_cell? w _ hw523_3)).trans hw523_3), ((HB.out.cell (World.block_lt_of_cell? w _ hw524_0)).trans hw524_0), ((HB.out.cell (World.block_lt_of_cell? w _ hw524_1)).trans hw524_1), ((HB.out.cell (World.block_lt_of_cell? w _ hw524_2)).trans hw524_2), ((HB.out.cell (World.block_lt_of_cell? w _ hw524_3)).trans hw524_3), ((HB.out.cell (World.block_lt_of_cell? w _ hw526_0)).trans hw526_0), ((HB.out.cell (World.block_lt_of_cell? w _ hw526_1)).trans hw526_1), ((HB.out.cell (World.block_lt_of_cell? w _ hw526_2)).trans hw526_2), ((HB.out.cell (World.block_lt_of_cell? w _ hw526_3)).trans hw526_3), ((HB.out.cell (World.block_lt_of_cell? w _ hw527_0)).trans hw527_0), ((HB.out.cell (World.block_lt_of_cell? w _ hw527_1)).trans hw527_1), ((HB.out.cell (World.block_lt_of_cell? w _ hw527_2)).trans hw527_2), ((HB.out.cell (World.block_lt_of_cell? w _ hw527_3)).trans hw527_3)⟩ (fun hHeld => ?_); refine with_tabW hucksterlaw05_EventAhead.tab11 hucksterlaw05_EventAhead.bits11 (fun HT_ HW_ => ?_)
               generalize wr.drew = w17 at HB HR523_2 HR523_3 HR524_2 HR524_3 HR526_2 HR526_3 HR527_2 HR527_3 hx523_0 hx523_1 hx523_2 hx523_3 hx524_0 hx524_1 hx524_2 hx524_3 hx526_0 hx526_1 hx526_2 hx526_3 hx527_0 hx527_1 hx527_2 hx527_3 hHeld ⊢
               refine pure_ (i := 0) (N := some 31) (v := ?_) (a' := ?_) #[true, false, false, false, false, false, false, false, false, false, false, false, false, false, false, false, false, false, false, false, false, false, false] rfl rfl (any_of HT_.out z24_4) (fun _ _ _ h => h) (Or.inl ⟨by rfl, ?_⟩) ?_ ?_
               rotate_left
               ·intro w'
                go_simp
                with_reducible rfl
               rotate_left
               ·exact z24_0
               refine pure_ (i := 1) (N := some 32) (v := ?_) (a' := ?_) #[true, true, false, false, false, false, false, false, false, false, false, false, false, false, false, false, false, false, false, false, false, false, false] rfl rfl (any_of HT_.out z24_4) (fun _ _ _ h => h) (Or.inl ⟨by rfl, ?_⟩) ?_ ?_
               rotate_left
               ·intro w'
                go_simp
                with_reducible rfl
               rotate_left
               ·exact z24_0
               refine pure_ (i := 2) (N := some 33) (v := ?_) (a' := ?_) #[true, true, true, false, false, false, false, false, false, false, false, false, false, false, false, false, false, false, false, false, false, false, false] rfl rfl (any_of HT_.out z24_4) (fun _ _ _ h => h) (Or.inl ⟨by rfl, ?_⟩) ?_ ?_
               rotate_left
               ·intro w'
                go_simp
                with_reducible rfl
               rotate_left
               ·exact z24_0
               refine pure_ (i := 4) (N := some 35) (v := ?_) (a' := ?_) #[true, true, true, false, true, false, false, false, false, false, false, false, false, false, false, false, false, false, false, false, false, false, false] rfl rfl (any_of HT_.out z24_4) (fun _ _ _ h => h) (Or.inl ⟨by rfl, ?_⟩) ?_ ?_
               rotate_left
               ·intro w'
                go_simp
                with_reducible rfl
               rotate_left
               ·exact z24_0
               refine pure_ (i := 5) (N := some 36) (v := ?_) (a' := ?_) #[true, true, true, false, true, true, false, false, false, false, false, false, false, false, false, false, false, false, false, false, false, false, false] rfl rfl (any_of HT_.out z24_4) (fun _ _ _ h => h) (Or.inl ⟨by rfl, ?_⟩) ?_ ?_
               rotate_left
               ·intro w'
                go_simp
                with_reducible rfl
               rotate_left
               ·exact z24_0
               refine pure_ (i := 6) (N := some 37) (v := ?_) (a' := ?_) #[true, true, true, false, true, true, true, false, false, false, false, false, false, false, false, false, false, false, false, false, false, false, false] rfl rfl (any_of HT_.out z24_4) (fun _ _ _ h => h) (Or.inl ⟨by rfl, ?_⟩) ?_ ?_
               rotate_left
               ·intro w'
                go_simp
                with_reducible rfl
               rotate_left
               ·exact z24_0
               refine take_ (i := 3) (N := some 34) (v := ?_) (a' := ?_) #[true, true, true, true, true, true, true, false, false, false, false, false, false, false, false, false, false, false, false, false, false, false, false] rfl rfl (take_ofW HT_.out HW_.out z24_4) (fun _ _ _ h => h) (Or.inl ⟨by rfl, ?_⟩) hHeld ?_ ?_
               rotate_left
               ·rintro w' ⟨s0, s1, s2, s3, s4, s5, s6, s7, s8, s9, s10, s11, s12, s13, s14, s15⟩
                go_simp
                with_reducible rfl
               rotate_left
               ·exact z24_0
               refine take_ (i := 7) (N := some 38) (v := ?_) (a' := ?_) #[true, true, true, true, true, true, true, true, false, false, false, false, false, false, false, false, false, false, false, false, false, false, false] rfl rfl (take_ofW HT_.out HW_.out z24_4) (fun _ _ _ h => h) (Or.inl ⟨by rfl, ?_⟩) hHeld ?_ ?_
               rotate_left
               ·rintro w' ⟨s0, s1, s2, s3, s4, s5, s6, s7, s8, s9, s10, s11, s12, s13, s14, s15⟩
                go_simp
                with_reducible rfl
               rotate_left
               ·exact z24_0
               refine one_ (i := 8) (N := some 39) #[true, true, true, true, true, true, true, true, true, false, false, false, false, false, false, false, false, false, false, false, false, false, false] rfl rfl (one_of HT_.out z24_4) (by decide) (fun K hK => ?_)
               refine goes_ Try.func18 z24_4 rfl #[.agg #[.int .i64 ((rd_T30 l0 x4_2).f0.f0), .int .i64 ((rd_T30 l0 x4_2).f0.f1), .slice A523_2 ((rd_T30 l0 x4_2).f1).length c523_2, .slice A523_3 ((rd_T30 l0 x4_2).f2).length c523_3], .agg #[.int .i64 ((rd_T30 l0 x3_1).f0.f0), .int .i64 ((rd_T30 l0 x3_1).f0.f1), .slice A524_2 ((rd_T30 l0 x3_1).f1).length c524_2, .slice A524_3 ((rd_T30 l0 x3_1).f2).length c524_3]] (by rfl) rfl rfl z24_1 ?_
               with_reducible refine (hucksterref05_Ahead.calls k2 ((rd_T30 l0 x4_2).f0.f0) ((rd_T30 l0 x4_2).f0.f1) _ _ ((rd_T30 l0 x4_2).f1) _ _ ((rd_T30 l0 x4_2).f2) ((rd_T30 l0 x3_1).f0.f0) ((rd_T30 l0 x3_1).f0.f1) _ _ ((rd_T30 l0 x3_1).f1) _ _ ((rd_T30 l0 x3_1).f2) true _ ?side1 ?side2 ?side3 ?side4 ?side5 ?side6 ?side7 ?side8 A13.out).mono ?_
               (case side1 => exact z24_9)
               (case side2 => exact HC523_2.out)
               (case side3 => exact z24_10)
               (case side4 => exact HC523_3.out)
               (case side5 => exact z24_11)
               (case side6 => exact HC524_2.out)
               (case side7 => exact z24_12)
               (case side8 => exact HC524_3.out)
               rintro e w18 ⟨rfl, hb⟩
               refine ⟨_, rfl, ?_⟩
               have n0_ := Aside0.mk (below_step z24_2 hb)
               clear HB
               have HB := n0_
               clear n0_
               (try clear hb)
               (try clear hb2)
               (try clear hk)
               (try clear hi)
               refine hK.out _ _ ⟨((HB.out.cell (World.block_lt_of_cell? w _ hw523_0)).trans hw523_0), ((HB.out.cell (World.block_lt_of_cell? w _ hw523_1)).trans hw523_1), ((HB.out.cell (World.block_lt_of_cell? w _ hw523_2)).trans hw523_2), ((HB.out.cell (World.block_lt_of_cell? w _ hw523_3)).trans hw523_3), ((HB.out.cell (World.block_lt_of_cell? w _ hw524_0)).trans hw524_0), ((HB.out.cell (World.block_lt_of_cell? w _ hw524_1)).trans hw524_1), ((HB.out.cell (World.block_lt_of_cell? w _ hw524_2)).trans hw524_2), ((HB.out.cell (World.block_lt_of_cell? w _ hw524_3)).trans hw524_3), ((HB.out.cell (World.block_lt_of_cell? w _ hw526_0)).trans hw526_0), ((HB.out.cell (World.block_lt_of_cell? w _ hw526_1)).trans hw526_1), ((HB.out.cell (World.block_lt_of_cell? w _ hw526_2)).trans hw526_2), ((HB.out.cell (World.block_lt_of_cell? w _ hw526_3)).trans hw526_3), ((HB.out.cell (World.block_lt_of_cell? w _ hw527_0)).trans hw527_0), ((HB.out.cell (World.block_lt_of_cell? w _ hw527_1)).trans hw527_1), ((HB.out.cell (World.block_lt_of_cell? w _ hw527_2)).trans hw527_2), ((HB.out.cell (World.block_lt_of_cell? w _ hw527_3)).trans hw527_3)⟩ (fun hHeld => ?_)
               clear hK K
               refine norm_ (a' := ?_) ?_ ?_
               rotate_left
               ·exact z24_14
               refine pure_ (i := 9) (N := some 40) (v := ?_) (a' := ?_) #[true, true, true, true, true, true, true, true, true, true, false, false, false, false, false, false, false, false, false, false, false, false, false] rfl rfl (any_of HT_.out z24_4) (fun _ _ _ h => h) (Or.inl ⟨by rfl, ?_⟩) ?_ ?_
               rotate_left
               ·intro w'
                go_simp
                with_reducible rfl
               rotate_left
               ·exact z24_0
               refine pure_ (i := 10) (N := some 41) (v := ?_) (a' := ?_) #[true, true, true, true, true, true, true, true, true, true, true, false, false, false, false, false, false, false, false, false, false, false, false] rfl rfl (any_of HT_.out z24_4) (fun _ _ _ h => h) (Or.inl ⟨by rfl, ?_⟩) ?_ ?_
               rotate_left
               ·intro w'
                go_simp
                with_reducible rfl
               rotate_left
               ·exact z24_0
               refine pure_ (i := 11) (N := some 42) (v := ?_) (a' := ?_) #[true, true, true, true, true, true, true, true, true, true, true, true, false, false, false, false, false, false, false, false, false, false, false] rfl rfl (any_of HT_.out z24_4) (fun _ _ _ h => h) (Or.inl ⟨by rfl, ?_⟩) ?_ ?_
               rotate_left
               ·intro w'
                go_simp
                with_reducible rfl
               rotate_left
               ·exact z24_0
               refine pure_ (i := 12) (N := some 43) (v := ?_) (a' := ?_) #[true, true, true, true, true, true, true, true, true, true, true, true, true, false, false, false, false, false, false, false, false, false, false] rfl rfl (any_of HT_.out z24_4) (fun _ _ _ h => h) (Or.inl ⟨by rfl, ?_⟩) ?_ ?_
               rotate_left
               ·intro w'
                go_simp
                with_reducible rfl
               rotate_left
               ·exact z24_0
               refine pure_ (i := 13) (N := some 44) (v := ?_) (a' := ?_) #[true, true, true, true, true, true, true, true, true, true, true, true, true, true, false, false, false, false, false, false, false, false, false] rfl rfl (any_of HT_.out z24_4) (fun _ _ _ h => h) (Or.inl ⟨by rfl, ?_⟩) ?_ ?_
               rotate_left
               ·intro w'
                go_simp
                with_reducible rfl
               rotate_left
               ·exact z24_0
               refine pure_ (i := 15) (N := some 46) (v := ?_) (a' := ?_) #[true, true, true, true, true, true, true, true, true, true, true, true, true, true, false, true, false, false, false, false, false, false, false] rfl rfl (any_of HT_.out z24_4) (fun _ _ _ h => h) (Or.inl ⟨by rfl, ?_⟩) ?_ ?_
               rotate_left
               ·intro w'
                go_simp
                with_reducible rfl
               rotate_left
               ·exact z24_0
               refine pure_ (i := 16) (N := some 47) (v := ?_) (a' := ?_) #[true, true, true, true, true, true, true, true, true, true, true, true, true, true, false, true, true, false, false, false, false, false, false] rfl rfl (any_of HT_.out z24_4) (fun _ _ _ h => h) (Or.inl ⟨by rfl, ?_⟩) ?_ ?_
               rotate_left
               ·intro w'
                go_simp
                with_reducible rfl
               rotate_left
               ·exact z24_0
               refine pure_ (i := 17) (N := some 48) (v := ?_) (a' := ?_) #[true, true, true, true, true, true, true, true, true, true, true, true, true, true, false, true, true, true, false, false, false, false, false] rfl rfl (any_of HT_.out z24_4) (fun _ _ _ h => h) (Or.inl ⟨by rfl, ?_⟩) ?_ ?_
               rotate_left
               ·intro w'
                go_simp
                with_reducible rfl
               rotate_left
               ·exact z24_0
               refine pure_ (i := 18) (N := some 49) (v := ?_) (a' := ?_) #[true, true, true, true, true, true, true, true, true, true, true, true, true, true, false, true, true, true, true, false, false, false, false] rfl rfl (any_of HT_.out z24_4) (fun _ _ _ h => h) (Or.inl ⟨by rfl, ?_⟩) ?_ ?_
               rotate_left
               ·intro w'
                go_simp
                with_reducible rfl
               rotate_left
               ·exact z24_0
               refine take_ (i := 14) (N := some 45) (v := ?_) (a' := ?_) #[true, true, true, true, true, true, true, true, true, true, true, true, true, true, true, true, true, true, true, false, false, false, false] rfl rfl (take_ofW HT_.out HW_.out z24_4) (fun _ _ _ h => h) (Or.inl ⟨by rfl, ?_⟩) hHeld ?_ ?_
               rotate_left
               ·rintro w' ⟨s0, s1, s2, s3, s4, s5, s6, s7, s8, s9, s10, s11, s12, s13, s14, s15⟩
                go_simp
                with_reducible rfl
               rotate_left
               ·exact z24_0
               refine take_ (i := 19) (N := some 50) (v := ?_) (a' := ?_) #[true, true, true, true, true, true, true, true, true, true, true, true, true, true, true, true, true, true, true, true, false, false, false] rfl rfl (take_ofW HT_.out HW_.out z24_4) (fun _ _ _ h => h) (Or.inl ⟨by rfl, ?_⟩) hHeld ?_ ?_
               rotate_left
               ·rintro w' ⟨s0, s1, s2, s3, s4, s5, s6, s7, s8, s9, s10, s11, s12, s13, s14, s15⟩
                go_simp
                with_reducible rfl
               rotate_left
               ·exact z24_0
               refine one_ (i := 20) (N := some 51) #[true, true, true, true, true, true, true, true, true, true, true, true, true, true, true, true, true, true, true, true, true, false, false] rfl rfl (one_of HT_.out z24_4) (by decide) (fun K hK => ?_)
               refine goes_ Try.func19 z24_4 rfl #[.slice A523_2 ((rd_T30 l0 x4_2).f1).length c523_2, .slice A524_2 ((rd_T30 l0 x3_1).f1).length c524_2] (by rfl) rfl rfl z24_1 ?_
               with_reducible refine (hucksterref03_Within.calls k2 _ _ ((rd_T30 l0 x4_2).f1) _ _ ((rd_T30 l0 x3_1).f1) true _ ?side1 ?side2 ?side3 ?side4 A15.out).mono ?_
               (case side1 => exact z24_18)
               (case side2 => exact HC526_2.out)
               (case side3 => exact z24_19)
               (case side4 => exact HC527_2.out)
               rintro e w' ⟨rfl, ⟨nd, rfl⟩⟩
               refine ⟨_, rfl, ?_⟩
               refine hK.out _ _ ⟨((HB.out.cell (World.block_lt_of_cell? w _ hw523_0)).trans hw523_0), ((HB.out.cell (World.block_lt_of_cell? w _ hw523_1)).trans hw523_1), ((HB.out.cell (World.block_lt_of_cell? w _ hw523_2)).trans hw523_2), ((HB.out.cell (World.block_lt_of_cell? w _ hw523_3)).trans hw523_3), ((HB.out.cell (World.block_lt_of_cell? w _ hw524_0)).trans hw524_0), ((HB.out.cell (World.block_lt_of_cell? w _ hw524_1)).trans hw524_1), ((HB.out.cell (World.block_lt_of_cell? w _ hw524_2)).trans hw524_2), ((HB.out.cell (World.block_lt_of_cell? w _ hw524_3)).trans hw524_3), ((HB.out.cell (World.block_lt_of_cell? w _ hw526_0)).trans hw526_0), ((HB.out.cell (World.block_lt_of_cell? w _ hw526_1)).trans hw526_1), ((HB.out.cell (World.block_lt_of_cell? w _ hw526_2)).trans hw526_2), ((HB.out.cell (World.block_lt_of_cell? w _ hw526_3)).trans hw526_3), ((HB.out.cell (World.block_lt_of_cell? w _ hw527_0)).trans hw527_0), ((HB.out.cell (World.block_lt_of_cell? w _ hw527_1)).trans hw527_1), ((HB.out.cell (World.block_lt_of_cell? w _ hw527_2)).trans hw527_2), ((HB.out.cell (World.block_lt_of_cell? w _ hw527_3)).trans hw527_3)⟩ (fun hHeld => ?_)
               clear hK K
               refine norm_ (a' := ?_) ?_ ?_
               rotate_left
               ·show Act.put _ (some 51) _ = _; simp only [Act.put, List.setIfInBounds_toArray, List.set_cons_zero, List.set_cons_succ, i64_w, i32_w]; rfl
               refine pure_ (i := 21) (N := some 52) (v := ?_) (a' := ?_) #[true, true, true, true, true, true, true, true, true, true, true, true, true, true, true, true, true, true, true, true, true, true, false] rfl rfl (any_of HT_.out z24_4) (fun _ _ _ h => h) (Or.inl ⟨by rfl, ?_⟩) ?_ ?_
               rotate_left
               ·intro w'
                go_simp
                with_reducible rfl
               rotate_left
               ·exact z24_0
               refine pure_ (i := 22) (N := some 53) (v := ?_) (a' := ?_) #[true, true, true, true, true, true, true, true, true, true, true, true, true, true, true, true, true, true, true, true, true, true, true] rfl rfl (any_of HT_.out z24_4) (fun _ _ _ h => h) (Or.inl ⟨by rfl, ?_⟩) ?_ ?_
               rotate_left
               ·intro w'
                go_simp
                with_reducible rfl
               rotate_left
               ·exact z24_0
               refine done_ (done_of HT_.out z24_4) ?_
               try go_wp2
               go_roundg k2
               case measure => have := HK1.out; have := HK2.out; omega
               case rel => exact ⟨(wrap64 (x4_2 + 1)), z24_13, H', ⟨by have := HK1.out; have := HK2.out; omega⟩, ⟨by repeat (first | (with_reducible first | exact HB.out | apply below_alloc | apply pw_below_drewN | apply below_drew1) | exact HB.out)⟩⟩
              ·replace c16 := Bool.eq_false_iff.mpr c16
               subst c16
               have H1 : ((hucksterlaw05_awake.f k2).bind fun t529 => (some t529)) = some r := by rw [if_neg (show ¬ (false = true) by decide)] at H; exact H
               clear H
               have H := H1
               clear H1
               replace H := Option.bind_eq_some_iff.mp H
               obtain ⟨t529, A190, H⟩ := H
               replace H : (some t529) = some r := H
               have A19 := Aside0.mk A190
               clear A190
               obtain rfl := Option.some.inj H
               try go_wp2
               have n0_ := Aside0.mk (below_drew1 HB.out)
               clear HB
               have HB := n0_
               clear n0_
               have p523 : 0 ≤ (x4_2 : Int) := of_decide_eq_true z24_3
               have q523 : x4_2 < (l0.length : Int) := of_decide_eq_true z24_3
               obtain ⟨ad523, A523_2, c523_2, A523_3, c523_3, e523, hx523_0, hx523_1, hx523_2, hx523_3, hl523_2, hi523_2, hl523_3, hi523_3⟩ := at_T30 HR0.out x4_2 p523 q523
               have hw523_3 := hx523_3
               have hw523_2 := hx523_2
               have hw523_1 := hx523_1
               have hw523_0 := hx523_0
               obtain rfl : ad520 = ad523 := (by injection e523)
               replace hx523_0 := (HB.out.cell (World.block_lt_of_cell? w _ hx523_0)).trans hx523_0
               replace hx523_1 := (HB.out.cell (World.block_lt_of_cell? w _ hx523_1)).trans hx523_1
               replace hx523_2 := (HB.out.cell (World.block_lt_of_cell? w _ hx523_2)).trans hx523_2
               replace hx523_3 := (HB.out.cell (World.block_lt_of_cell? w _ hx523_3)).trans hx523_3
               have HR523_2 := Aside0.mk hi523_2
               have HC523_2 := Aside0.mk hl523_2
               clear hi523_2 hl523_2
               have HR523_3 := Aside0.mk hi523_3
               have HC523_3 := Aside0.mk hl523_3
               clear hi523_3 hl523_3
               replace p523 := eq_true p523
               replace q523 := eq_true q523
               have p524 : 0 ≤ (x3_1 : Int) := of_decide_eq_true z24_3
               have q524 : x3_1 < (l0.length : Int) := of_decide_eq_true z24_3
               obtain ⟨ad524, A524_2, c524_2, A524_3, c524_3, e524, hx524_0, hx524_1, hx524_2, hx524_3, hl524_2, hi524_2, hl524_3, hi524_3⟩ := at_T30 HR0.out x3_1 p524 q524
               have hw524_3 := hx524_3
               have hw524_2 := hx524_2
               have hw524_1 := hx524_1
               have hw524_0 := hx524_0
               obtain rfl : ad520 = ad524 := (by injection e524)
               replace hx524_0 := (HB.out.cell (World.block_lt_of_cell? w _ hx524_0)).trans hx524_0
               replace hx524_1 := (HB.out.cell (World.block_lt_of_cell? w _ hx524_1)).trans hx524_1
               replace hx524_2 := (HB.out.cell (World.block_lt_of_cell? w _ hx524_2)).trans hx524_2
               replace hx524_3 := (HB.out.cell (World.block_lt_of_cell? w _ hx524_3)).trans hx524_3
               have HR524_2 := Aside0.mk hi524_2
               have HC524_2 := Aside0.mk hl524_2
               clear hi524_2 hl524_2
               have HR524_3 := Aside0.mk hi524_3
               have HC524_3 := Aside0.mk hl524_3
               clear hi524_3 hl524_3
               replace p524 := eq_true p524
               replace q524 := eq_true q524
               have p526 : 0 ≤ (x4_2 : Int) := of_decide_eq_true z24_3
               have q526 : x4_2 < (l0.length : Int) := of_decide_eq_true z24_3
               obtain ⟨ad526, A526_2, c526_2, A526_3, c526_3, e526, hx526_0, hx526_1, hx526_2, hx526_3, hl526_2, hi526_2, hl526_3, hi526_3⟩ := at_T30 HR0.out x4_2 p526 q526
               have hw526_3 := hx526_3
               have hw526_2 := hx526_2
               have hw526_1 := hx526_1
               have hw526_0 := hx526_0
               obtain rfl : ad520 = ad526 := (by injection e526)
               obtain ⟨rfl, rfl⟩ : A523_2 = A526_2 ∧ c523_2 = c526_2 := by have h_ := Option.some.inj (hw523_2.symm.trans hw526_2); injection h_ with h1_ h2_ h3_; exact ⟨h1_, h3_⟩
               obtain ⟨rfl, rfl⟩ : A523_3 = A526_3 ∧ c523_3 = c526_3 := by have h_ := Option.some.inj (hw523_3.symm.trans hw526_3); injection h_ with h1_ h2_ h3_; exact ⟨h1_, h3_⟩
               replace hx526_0 := (HB.out.cell (World.block_lt_of_cell? w _ hx526_0)).trans hx526_0
               replace hx526_1 := (HB.out.cell (World.block_lt_of_cell? w _ hx526_1)).trans hx526_1
               replace hx526_2 := (HB.out.cell (World.block_lt_of_cell? w _ hx526_2)).trans hx526_2
               replace hx526_3 := (HB.out.cell (World.block_lt_of_cell? w _ hx526_3)).trans hx526_3
               have HR526_2 := Aside0.mk hi526_2
               have HC526_2 := Aside0.mk hl526_2
               clear hi526_2 hl526_2
               have HR526_3 := Aside0.mk hi526_3
               have HC526_3 := Aside0.mk hl526_3
               clear hi526_3 hl526_3
               replace p526 := eq_true p526
               replace q526 := eq_true q526
               have p527 : 0 ≤ (x3_1 : Int) := of_decide_eq_true z24_3
               have q527 : x3_1 < (l0.length : Int) := of_decide_eq_true z24_3
               obtain ⟨ad527, A527_2, c527_2, A527_3, c527_3, e527, hx527_0, hx527_1, hx527_2, hx527_3, hl527_2, hi527_2, hl527_3, hi527_3⟩ := at_T30 HR0.out x3_1 p527 q527
               have hw527_3 := hx527_3
               have hw527_2 := hx527_2
               have hw527_1 := hx527_1
               have hw527_0 := hx527_0
               obtain rfl : ad520 = ad527 := (by injection e527)
               obtain ⟨rfl, rfl⟩ : A524_2 = A527_2 ∧ c524_2 = c527_2 := by have h_ := Option.some.inj (hw524_2.symm.trans hw527_2); injection h_ with h1_ h2_ h3_; exact ⟨h1_, h3_⟩
               obtain ⟨rfl, rfl⟩ : A524_3 = A527_3 ∧ c524_3 = c527_3 := by have h_ := Option.some.inj (hw524_3.symm.trans hw527_3); injection h_ with h1_ h2_ h3_; exact ⟨h1_, h3_⟩
               replace hx527_0 := (HB.out.cell (World.block_lt_of_cell? w _ hx527_0)).trans hx527_0
               replace hx527_1 := (HB.out.cell (World.block_lt_of_cell? w _ hx527_1)).trans hx527_1
               replace hx527_2 := (HB.out.cell (World.block_lt_of_cell? w _ hx527_2)).trans hx527_2
               replace hx527_3 := (HB.out.cell (World.block_lt_of_cell? w _ hx527_3)).trans hx527_3
               have HR527_2 := Aside0.mk hi527_2
               have HC527_2 := Aside0.mk hl527_2
               clear hi527_2 hl527_2
               have HR527_3 := Aside0.mk hi527_3
               have HC527_3 := Aside0.mk hl527_3
               clear hi527_3 hl527_3
               replace p527 := eq_true p527
               replace q527 := eq_true q527
               refine start_ (n := 23) (S := fun w' => w'.cell? (ad520.add ((x4_2).toNat * 4)) = some (.int .i64 ((rd_T30 l0 x4_2).f0.f0)) ∧ w'.cell? ⟨(ad520.add ((x4_2).toNat * 4)).block, (ad520.add ((x4_2).toNat * 4)).off + 1, none⟩ = some (.int .i64 ((rd_T30 l0 x4_2).f0.f1)) ∧ w'.cell? ⟨(ad520.add ((x4_2).toNat * 4)).block, (ad520.add ((x4_2).toNat * 4)).off + 2, none⟩ = some (.slice A523_2 ((rd_T30 l0 x4_2).f1).length c523_2) ∧ w'.cell? ⟨(ad520.add ((x4_2).toNat * 4)).block, (ad520.add ((x4_2).toNat * 4)).off + 3, none⟩ = some (.slice A523_3 ((rd_T30 l0 x4_2).f2).length c523_3) ∧ w'.cell? (ad520.add ((x3_1).toNat * 4)) = some (.int .i64 ((rd_T30 l0 x3_1).f0.f0)) ∧ w'.cell? ⟨(ad520.add ((x3_1).toNat * 4)).block, (ad520.add ((x3_1).toNat * 4)).off + 1, none⟩ = some (.int .i64 ((rd_T30 l0 x3_1).f0.f1)) ∧ w'.cell? ⟨(ad520.add ((x3_1).toNat * 4)).block, (ad520.add ((x3_1).toNat * 4)).off + 2, none⟩ = some (.slice A524_2 ((rd_T30 l0 x3_1).f1).length c524_2) ∧ w'.cell? ⟨(ad520.add ((x3_1).toNat * 4)).block, (ad520.add ((x3_1).toNat * 4)).off + 3, none⟩ = some (.slice A524_3 ((rd_T30 l0 x3_1).f2).length c524_3) ∧ w'.cell? (ad520.add ((x4_2).toNat * 4)) = some (.int .i64 ((rd_T30 l0 x4_2).f0.f0)) ∧ w'.cell? ⟨(ad520.add ((x4_2).toNat * 4)).block, (ad520.add ((x4_2).toNat * 4)).off + 1, none⟩ = some (.int .i64 ((rd_T30 l0 x4_2).f0.f1)) ∧ w'.cell? ⟨(ad520.add ((x4_2).toNat * 4)).block, (ad520.add ((x4_2).toNat * 4)).off + 2, none⟩ = some (.slice A523_2 ((rd_T30 l0 x4_2).f1).length c523_2) ∧ w'.cell? ⟨(ad520.add ((x4_2).toNat * 4)).block, (ad520.add ((x4_2).toNat * 4)).off + 3, none⟩ = some (.slice A523_3 ((rd_T30 l0 x4_2).f2).length c523_3) ∧ w'.cell? (ad520.add ((x3_1).toNat * 4)) = some (.int .i64 ((rd_T30 l0 x3_1).f0.f0)) ∧ w'.cell? ⟨(ad520.add ((x3_1).toNat * 4)).block, (ad520.add ((x3_1).toNat * 4)).off + 1, none⟩ = some (.int .i64 ((rd_T30 l0 x3_1).f0.f1)) ∧ w'.cell? ⟨(ad520.add ((x3_1).toNat * 4)).block, (ad520.add ((x3_1).toNat * 4)).off + 2, none⟩ = some (.slice A524_2 ((rd_T30 l0 x3_1).f1).length c524_2) ∧ w'.cell? ⟨(ad520.add ((x3_1).toNat * 4)).block, (ad520.add ((x3_1).toNat * 4)).off + 3, none⟩ = some (.slice A524_3 ((rd_T30 l0 x3_1).f2).length c524_3)) (ds := []) #[false, false, false, false, false, false, false, false, false, false, false, false, false, false, false, false, false, false, false, false, false, false, false] z24_4 rfl rfl ⟨((HB.out.cell (World.block_lt_of_cell? w _ hw523_0)).trans hw523_0), ((HB.out.cell (World.block_lt_of_cell? w _ hw523_1)).trans hw523_1), ((HB.out.cell (World.block_lt_of_cell? w _ hw523_2)).trans hw523_2), ((HB.out.cell (World.block_lt_of_cell? w _ hw523_3)).trans hw523_3), ((HB.out.cell (World.block_lt_of_cell? w _ hw524_0)).trans hw524_0), ((HB.out.cell (World.block_lt_of_cell? w _ hw524_1)).trans hw524_1), ((HB.out.cell (World.block_lt_of_cell? w _ hw524_2)).trans hw524_2), ((HB.out.cell (World.block_lt_of_cell? w _ hw524_3)).trans hw524_3), ((HB.out.cell (World.block_lt_of_cell? w _ hw526_0)).trans hw526_0), ((HB.out.cell (World.block_lt_of_cell? w _ hw526_1)).trans hw526_1), ((HB.out.cell (World.block_lt_of_cell? w _ hw526_2)).trans hw526_2), ((HB.out.cell (World.block_lt_of_cell? w _ hw526_3)).trans hw526_3), ((HB.out.cell (World.block_lt_of_cell? w _ hw527_0)).trans hw527_0), ((HB.out.cell (World.block_lt_of_cell? w _ hw527_1)).trans hw527_1), ((HB.out.cell (World.block_lt_of_cell? w _ hw527_2)).trans hw527_2), ((HB.out.cell (World.block_lt_of_cell? w _ hw527_3)).trans hw527_3)⟩ (fun hHeld => ?_); refine with_tabW hucksterlaw05_EventAhead.tab11 hucksterlaw05_EventAhead.bits11 (fun HT_ HW_ => ?_)
               generalize wr.drew = w20 at HB HR523_2 HR523_3 HR524_2 HR524_3 HR526_2 HR526_3 HR527_2 HR527_3 hx523_0 hx523_1 hx523_2 hx523_3 hx524_0 hx524_1 hx524_2 hx524_3 hx526_0 hx526_1 hx526_2 hx526_3 hx527_0 hx527_1 hx527_2 hx527_3 hHeld ⊢
               refine pure_ (i := 0) (N := some 31) (v := ?_) (a' := ?_) #[true, false, false, false, false, false, false, false, false, false, false, false, false, false, false, false, false, false, false, false, false, false, false] rfl rfl (any_of HT_.out z24_4) (fun _ _ _ h => h) (Or.inl ⟨by rfl, ?_⟩) ?_ ?_
               rotate_left
               ·intro w'
                go_simp
                with_reducible rfl
               rotate_left
               ·exact z24_0
               refine pure_ (i := 1) (N := some 32) (v := ?_) (a' := ?_) #[true, true, false, false, false, false, false, false, false, false, false, false, false, false, false, false, false, false, false, false, false, false, false] rfl rfl (any_of HT_.out z24_4) (fun _ _ _ h => h) (Or.inl ⟨by rfl, ?_⟩) ?_ ?_
               rotate_left
               ·intro w'
                go_simp
                with_reducible rfl
               rotate_left
               ·exact z24_0
               refine pure_ (i := 2) (N := some 33) (v := ?_) (a' := ?_) #[true, true, true, false, false, false, false, false, false, false, false, false, false, false, false, false, false, false, false, false, false, false, false] rfl rfl (any_of HT_.out z24_4) (fun _ _ _ h => h) (Or.inl ⟨by rfl, ?_⟩) ?_ ?_
               rotate_left
               ·intro w'
                go_simp
                with_reducible rfl
               rotate_left
               ·exact z24_0
               refine pure_ (i := 4) (N := some 35) (v := ?_) (a' := ?_) #[true, true, true, false, true, false, false, false, false, false, false, false, false, false, false, false, false, false, false, false, false, false, false] rfl rfl (any_of HT_.out z24_4) (fun _ _ _ h => h) (Or.inl ⟨by rfl, ?_⟩) ?_ ?_
               rotate_left
               ·intro w'
                go_simp
                with_reducible rfl
               rotate_left
               ·exact z24_0
               refine pure_ (i := 5) (N := some 36) (v := ?_) (a' := ?_) #[true, true, true, false, true, true, false, false, false, false, false, false, false, false, false, false, false, false, false, false, false, false, false] rfl rfl (any_of HT_.out z24_4) (fun _ _ _ h => h) (Or.inl ⟨by rfl, ?_⟩) ?_ ?_
               rotate_left
               ·intro w'
                go_simp
                with_reducible rfl
               rotate_left
               ·exact z24_0
               refine pure_ (i := 6) (N := some 37) (v := ?_) (a' := ?_) #[true, true, true, false, true, true, true, false, false, false, false, false, false, false, false, false, false, false, false, false, false, false, false] rfl rfl (any_of HT_.out z24_4) (fun _ _ _ h => h) (Or.inl ⟨by rfl, ?_⟩) ?_ ?_
               rotate_left
               ·intro w'
                go_simp
                with_reducible rfl
               rotate_left
               ·exact z24_0
               refine take_ (i := 3) (N := some 34) (v := ?_) (a' := ?_) #[true, true, true, true, true, true, true, false, false, false, false, false, false, false, false, false, false, false, false, false, false, false, false] rfl rfl (take_ofW HT_.out HW_.out z24_4) (fun _ _ _ h => h) (Or.inl ⟨by rfl, ?_⟩) hHeld ?_ ?_
               rotate_left
               ·rintro w' ⟨s0, s1, s2, s3, s4, s5, s6, s7, s8, s9, s10, s11, s12, s13, s14, s15⟩
                go_simp
                with_reducible rfl
               rotate_left
               ·exact z24_0
               refine take_ (i := 7) (N := some 38) (v := ?_) (a' := ?_) #[true, true, true, true, true, true, true, true, false, false, false, false, false, false, false, false, false, false, false, false, false, false, false] rfl rfl (take_ofW HT_.out HW_.out z24_4) (fun _ _ _ h => h) (Or.inl ⟨by rfl, ?_⟩) hHeld ?_ ?_
               rotate_left
               ·rintro w' ⟨s0, s1, s2, s3, s4, s5, s6, s7, s8, s9, s10, s11, s12, s13, s14, s15⟩
                go_simp
                with_reducible rfl
               rotate_left
               ·exact z24_0
               refine one_ (i := 8) (N := some 39) #[true, true, true, true, true, true, true, true, true, false, false, false, false, false, false, false, false, false, false, false, false, false, false] rfl rfl (one_of HT_.out z24_4) (by decide) (fun K hK => ?_)
               refine goes_ Try.func18 z24_4 rfl #[.agg #[.int .i64 ((rd_T30 l0 x4_2).f0.f0), .int .i64 ((rd_T30 l0 x4_2).f0.f1), .slice A523_2 ((rd_T30 l0 x4_2).f1).length c523_2, .slice A523_3 ((rd_T30 l0 x4_2).f2).length c523_3], .agg #[.int .i64 ((rd_T30 l0 x3_1).f0.f0), .int .i64 ((rd_T30 l0 x3_1).f0.f1), .slice A524_2 ((rd_T30 l0 x3_1).f1).length c524_2, .slice A524_3 ((rd_T30 l0 x3_1).f2).length c524_3]] (by rfl) rfl rfl z24_1 ?_
               with_reducible refine (hucksterref05_Ahead.calls k2 ((rd_T30 l0 x4_2).f0.f0) ((rd_T30 l0 x4_2).f0.f1) _ _ ((rd_T30 l0 x4_2).f1) _ _ ((rd_T30 l0 x4_2).f2) ((rd_T30 l0 x3_1).f0.f0) ((rd_T30 l0 x3_1).f0.f1) _ _ ((rd_T30 l0 x3_1).f1) _ _ ((rd_T30 l0 x3_1).f2) true _ ?side1 ?side2 ?side3 ?side4 ?side5 ?side6 ?side7 ?side8 A13.out).mono ?_
               (case side1 => exact z24_9)
               (case side2 => exact HC523_2.out)
               (case side3 => exact z24_10)
               (case side4 => exact HC523_3.out)
               (case side5 => exact z24_11)
               (case side6 => exact HC524_2.out)
               (case side7 => exact z24_12)
               (case side8 => exact HC524_3.out)
               rintro e w21 ⟨rfl, hb⟩
               refine ⟨_, rfl, ?_⟩
               have n0_ := Aside0.mk (below_step z24_2 hb)
               clear HB
               have HB := n0_
               clear n0_
               (try clear hb)
               (try clear hb2)
               (try clear hk)
               (try clear hi)
               refine hK.out _ _ ⟨((HB.out.cell (World.block_lt_of_cell? w _ hw523_0)).trans hw523_0), ((HB.out.cell (World.block_lt_of_cell? w _ hw523_1)).trans hw523_1), ((HB.out.cell (World.block_lt_of_cell? w _ hw523_2)).trans hw523_2), ((HB.out.cell (World.block_lt_of_cell? w _ hw523_3)).trans hw523_3), ((HB.out.cell (World.block_lt_of_cell? w _ hw524_0)).trans hw524_0), ((HB.out.cell (World.block_lt_of_cell? w _ hw524_1)).trans hw524_1), ((HB.out.cell (World.block_lt_of_cell? w _ hw524_2)).trans hw524_2), ((HB.out.cell (World.block_lt_of_cell? w _ hw524_3)).trans hw524_3), ((HB.out.cell (World.block_lt_of_cell? w _ hw526_0)).trans hw526_0), ((HB.out.cell (World.block_lt_of_cell? w _ hw526_1)).trans hw526_1), ((HB.out.cell (World.block_lt_of_cell? w _ hw526_2)).trans hw526_2), ((HB.out.cell (World.block_lt_of_cell? w _ hw526_3)).trans hw526_3), ((HB.out.cell (World.block_lt_of_cell? w _ hw527_0)).trans hw527_0), ((HB.out.cell (World.block_lt_of_cell? w _ hw527_1)).trans hw527_1), ((HB.out.cell (World.block_lt_of_cell? w _ hw527_2)).trans hw527_2), ((HB.out.cell (World.block_lt_of_cell? w _ hw527_3)).trans hw527_3)⟩ (fun hHeld => ?_)
               clear hK K
               refine norm_ (a' := ?_) ?_ ?_
               rotate_left
               ·exact z24_14
               refine pure_ (i := 9) (N := some 40) (v := ?_) (a' := ?_) #[true, true, true, true, true, true, true, true, true, true, false, false, false, false, false, false, false, false, false, false, false, false, false] rfl rfl (any_of HT_.out z24_4) (fun _ _ _ h => h) (Or.inl ⟨by rfl, ?_⟩) ?_ ?_
               rotate_left
               ·intro w'
                go_simp
                with_reducible rfl
               rotate_left
               ·exact z24_0
               refine pure_ (i := 10) (N := some 41) (v := ?_) (a' := ?_) #[true, true, true, true, true, true, true, true, true, true, true, false, false, false, false, false, false, false, false, false, false, false, false] rfl rfl (any_of HT_.out z24_4) (fun _ _ _ h => h) (Or.inl ⟨by rfl, ?_⟩) ?_ ?_
               rotate_left
               ·intro w'
                go_simp
                with_reducible rfl
               rotate_left
               ·exact z24_0
               refine pure_ (i := 11) (N := some 42) (v := ?_) (a' := ?_) #[true, true, true, true, true, true, true, true, true, true, true, true, false, false, false, false, false, false, false, false, false, false, false] rfl rfl (any_of HT_.out z24_4) (fun _ _ _ h => h) (Or.inl ⟨by rfl, ?_⟩) ?_ ?_
               rotate_left
               ·intro w'
                go_simp
                with_reducible rfl
               rotate_left
               ·exact z24_0
               refine pure_ (i := 12) (N := some 43) (v := ?_) (a' := ?_) #[true, true, true, true, true, true, true, true, true, true, true, true, true, false, false, false, false, false, false, false, false, false, false] rfl rfl (any_of HT_.out z24_4) (fun _ _ _ h => h) (Or.inl ⟨by rfl, ?_⟩) ?_ ?_
               rotate_left
               ·intro w'
                go_simp
                with_reducible rfl
               rotate_left
               ·exact z24_0
               refine pure_ (i := 13) (N := some 44) (v := ?_) (a' := ?_) #[true, true, true, true, true, true, true, true, true, true, true, true, true, true, false, false, false, false, false, false, false, false, false] rfl rfl (any_of HT_.out z24_4) (fun _ _ _ h => h) (Or.inl ⟨by rfl, ?_⟩) ?_ ?_
               rotate_left
               ·intro w'
                go_simp
                with_reducible rfl
               rotate_left
               ·exact z24_0
               refine pure_ (i := 15) (N := some 46) (v := ?_) (a' := ?_) #[true, true, true, true, true, true, true, true, true, true, true, true, true, true, false, true, false, false, false, false, false, false, false] rfl rfl (any_of HT_.out z24_4) (fun _ _ _ h => h) (Or.inl ⟨by rfl, ?_⟩) ?_ ?_
               rotate_left
               ·intro w'
                go_simp
                with_reducible rfl
               rotate_left
               ·exact z24_0
               refine pure_ (i := 16) (N := some 47) (v := ?_) (a' := ?_) #[true, true, true, true, true, true, true, true, true, true, true, true, true, true, false, true, true, false, false, false, false, false, false] rfl rfl (any_of HT_.out z24_4) (fun _ _ _ h => h) (Or.inl ⟨by rfl, ?_⟩) ?_ ?_
               rotate_left
               ·intro w'
                go_simp
                with_reducible rfl
               rotate_left
               ·exact z24_0
               refine pure_ (i := 17) (N := some 48) (v := ?_) (a' := ?_) #[true, true, true, true, true, true, true, true, true, true, true, true, true, true, false, true, true, true, false, false, false, false, false] rfl rfl (any_of HT_.out z24_4) (fun _ _ _ h => h) (Or.inl ⟨by rfl, ?_⟩) ?_ ?_
               rotate_left
               ·intro w'
                go_simp
                with_reducible rfl
               rotate_left
               ·exact z24_0
               refine pure_ (i := 18) (N := some 49) (v := ?_) (a' := ?_) #[true, true, true, true, true, true, true, true, true, true, true, true, true, true, false, true, true, true, true, false, false, false, false] rfl rfl (any_of HT_.out z24_4) (fun _ _ _ h => h) (Or.inl ⟨by rfl, ?_⟩) ?_ ?_
               rotate_left
               ·intro w'
                go_simp
                with_reducible rfl
               rotate_left
               ·exact z24_0
               refine take_ (i := 14) (N := some 45) (v := ?_) (a' := ?_) #[true, true, true, true, true, true, true, true, true, true, true, true, true, true, true, true, true, true, true, false, false, false, false] rfl rfl (take_ofW HT_.out HW_.out z24_4) (fun _ _ _ h => h) (Or.inl ⟨by rfl, ?_⟩) hHeld ?_ ?_
               rotate_left
               ·rintro w' ⟨s0, s1, s2, s3, s4, s5, s6, s7, s8, s9, s10, s11, s12, s13, s14, s15⟩
                go_simp
                with_reducible rfl
               rotate_left
               ·exact z24_0
               refine take_ (i := 19) (N := some 50) (v := ?_) (a' := ?_) #[true, true, true, true, true, true, true, true, true, true, true, true, true, true, true, true, true, true, true, true, false, false, false] rfl rfl (take_ofW HT_.out HW_.out z24_4) (fun _ _ _ h => h) (Or.inl ⟨by rfl, ?_⟩) hHeld ?_ ?_
               rotate_left
               ·rintro w' ⟨s0, s1, s2, s3, s4, s5, s6, s7, s8, s9, s10, s11, s12, s13, s14, s15⟩
                go_simp
                with_reducible rfl
               rotate_left
               ·exact z24_0
               refine one_ (i := 20) (N := some 51) #[true, true, true, true, true, true, true, true, true, true, true, true, true, true, true, true, true, true, true, true, true, false, false] rfl rfl (one_of HT_.out z24_4) (by decide) (fun K hK => ?_)
               refine goes_ Try.func19 z24_4 rfl #[.slice A523_2 ((rd_T30 l0 x4_2).f1).length c523_2, .slice A524_2 ((rd_T30 l0 x3_1).f1).length c524_2] (by rfl) rfl rfl z24_1 ?_
               with_reducible refine (hucksterref03_Within.calls k2 _ _ ((rd_T30 l0 x4_2).f1) _ _ ((rd_T30 l0 x3_1).f1) false _ ?side1 ?side2 ?side3 ?side4 A15.out).mono ?_
               (case side1 => exact z24_18)
               (case side2 => exact HC526_2.out)
               (case side3 => exact z24_19)
               (case side4 => exact HC527_2.out)
               rintro e w' ⟨rfl, ⟨nd, rfl⟩⟩
               refine ⟨_, rfl, ?_⟩
               refine hK.out _ _ ⟨((HB.out.cell (World.block_lt_of_cell? w _ hw523_0)).trans hw523_0), ((HB.out.cell (World.block_lt_of_cell? w _ hw523_1)).trans hw523_1), ((HB.out.cell (World.block_lt_of_cell? w _ hw523_2)).trans hw523_2), ((HB.out.cell (World.block_lt_of_cell? w _ hw523_3)).trans hw523_3), ((HB.out.cell (World.block_lt_of_cell? w _ hw524_0)).trans hw524_0), ((HB.out.cell (World.block_lt_of_cell? w _ hw524_1)).trans hw524_1), ((HB.out.cell (World.block_lt_of_cell? w _ hw524_2)).trans hw524_2), ((HB.out.cell (World.block_lt_of_cell? w _ hw524_3)).trans hw524_3), ((HB.out.cell (World.block_lt_of_cell? w _ hw526_0)).trans hw526_0), ((HB.out.cell (World.block_lt_of_cell? w _ hw526_1)).trans hw526_1), ((HB.out.cell (World.block_lt_of_cell? w _ hw526_2)).trans hw526_2), ((HB.out.cell (World.block_lt_of_cell? w _ hw526_3)).trans hw526_3), ((HB.out.cell (World.block_lt_of_cell? w _ hw527_0)).trans hw527_0), ((HB.out.cell (World.block_lt_of_cell? w _ hw527_1)).trans hw527_1), ((HB.out.cell (World.block_lt_of_cell? w _ hw527_2)).trans hw527_2), ((HB.out.cell (World.block_lt_of_cell? w _ hw527_3)).trans hw527_3)⟩ (fun hHeld => ?_)
               clear hK K
               refine norm_ (a' := ?_) ?_ ?_
               rotate_left
               ·show Act.put _ (some 51) _ = _; simp only [Act.put, List.setIfInBounds_toArray, List.set_cons_zero, List.set_cons_succ, i64_w, i32_w]; rfl
               refine pure_ (i := 21) (N := some 52) (v := ?_) (a' := ?_) #[true, true, true, true, true, true, true, true, true, true, true, true, true, true, true, true, true, true, true, true, true, true, false] rfl rfl (any_of HT_.out z24_4) (fun _ _ _ h => h) (Or.inl ⟨by rfl, ?_⟩) ?_ ?_
               rotate_left
               ·intro w'
                go_simp
                with_reducible rfl
               rotate_left
               ·exact z24_0
               refine pure_ (i := 22) (N := some 53) (v := ?_) (a' := ?_) #[true, true, true, true, true, true, true, true, true, true, true, true, true, true, true, true, true, true, true, true, true, true, true] rfl rfl (any_of HT_.out z24_4) (fun _ _ _ h => h) (Or.inl ⟨by rfl, ?_⟩) ?_ ?_
               rotate_left
               ·intro w'
                go_simp
                with_reducible rfl
               rotate_left
               ·exact z24_0
               refine done_ (done_of HT_.out z24_4) ?_
               try go_wp2_with (first | ((with_reducible refine gate_callee (f := 12) rfl ?_); refine goesL_ (some 54) rfl rfl Try.func12 z24_4 rfl #[] rfl z24_1 ?_; (with_reducible refine (hucksterlaw05_awake.calls k2  t529 _ A19.out).mono ?_); rintro e w22 ⟨rfl, hb⟩; refine ⟨_, rfl, ?_⟩; have n0_ := Aside0.mk (below_step z24_2 hb); clear HB; have HB := n0_; clear n0_; (try clear hb); (try clear hb2); (try clear hk); (try clear hi)))
               go_ret
               exact ⟨by first | rfl | (simp [errW_none, errW_some] <;> rfl) | (simp [*, errW_none, errW_some] <;> rfl), by repeat (first | (with_reducible first | exact HB.out | apply below_alloc | apply pw_below_drewN | apply below_drew1) | exact HB.out)⟩
             ·replace c14 := Bool.eq_false_iff.mpr c14
              subst c14
              have H1 : (hucksterlaw05_EventAhead.l1 k2 l0 x3_1 (wrap64 (x4_2 + 1))) = some r := by rw [if_neg (show ¬ (false = true) by decide)] at H; exact H
              clear H
              have H := H1
              clear H1
              have H' := Aside0.mk H
              clear H
              try go_wp2
              have n0_ := Aside0.mk (below_drew1 HB.out)
              clear HB
              have HB := n0_
              clear n0_
              have p523 : 0 ≤ (x4_2 : Int) := of_decide_eq_true z24_3
              have q523 : x4_2 < (l0.length : Int) := of_decide_eq_true z24_3
              obtain ⟨ad523, A523_2, c523_2, A523_3, c523_3, e523, hx523_0, hx523_1, hx523_2, hx523_3, hl523_2, hi523_2, hl523_3, hi523_3⟩ := at_T30 HR0.out x4_2 p523 q523
              have hw523_3 := hx523_3
              have hw523_2 := hx523_2
              have hw523_1 := hx523_1
              have hw523_0 := hx523_0
              obtain rfl : ad520 = ad523 := (by injection e523)
              replace hx523_0 := (HB.out.cell (World.block_lt_of_cell? w _ hx523_0)).trans hx523_0
              replace hx523_1 := (HB.out.cell (World.block_lt_of_cell? w _ hx523_1)).trans hx523_1
              replace hx523_2 := (HB.out.cell (World.block_lt_of_cell? w _ hx523_2)).trans hx523_2
              replace hx523_3 := (HB.out.cell (World.block_lt_of_cell? w _ hx523_3)).trans hx523_3
              have HR523_2 := Aside0.mk hi523_2
              have HC523_2 := Aside0.mk hl523_2
              clear hi523_2 hl523_2
              have HR523_3 := Aside0.mk hi523_3
              have HC523_3 := Aside0.mk hl523_3
              clear hi523_3 hl523_3
              replace p523 := eq_true p523
              replace q523 := eq_true q523
              have p524 : 0 ≤ (x3_1 : Int) := of_decide_eq_true z24_3
              have q524 : x3_1 < (l0.length : Int) := of_decide_eq_true z24_3
              obtain ⟨ad524, A524_2, c524_2, A524_3, c524_3, e524, hx524_0, hx524_1, hx524_2, hx524_3, hl524_2, hi524_2, hl524_3, hi524_3⟩ := at_T30 HR0.out x3_1 p524 q524
              have hw524_3 := hx524_3
              have hw524_2 := hx524_2
              have hw524_1 := hx524_1
              have hw524_0 := hx524_0
              obtain rfl : ad520 = ad524 := (by injection e524)
              replace hx524_0 := (HB.out.cell (World.block_lt_of_cell? w _ hx524_0)).trans hx524_0
              replace hx524_1 := (HB.out.cell (World.block_lt_of_cell? w _ hx524_1)).trans hx524_1
              replace hx524_2 := (HB.out.cell (World.block_lt_of_cell? w _ hx524_2)).trans hx524_2
              replace hx524_3 := (HB.out.cell (World.block_lt_of_cell? w _ hx524_3)).trans hx524_3
              have HR524_2 := Aside0.mk hi524_2
              have HC524_2 := Aside0.mk hl524_2
              clear hi524_2 hl524_2
              have HR524_3 := Aside0.mk hi524_3
              have HC524_3 := Aside0.mk hl524_3
              clear hi524_3 hl524_3
              replace p524 := eq_true p524
              replace q524 := eq_true q524
              refine start_ (n := 23) (S := fun w' => w'.cell? (ad520.add ((x4_2).toNat * 4)) = some (.int .i64 ((rd_T30 l0 x4_2).f0.f0)) ∧ w'.cell? ⟨(ad520.add ((x4_2).toNat * 4)).block, (ad520.add ((x4_2).toNat * 4)).off + 1, none⟩ = some (.int .i64 ((rd_T30 l0 x4_2).f0.f1)) ∧ w'.cell? ⟨(ad520.add ((x4_2).toNat * 4)).block, (ad520.add ((x4_2).toNat * 4)).off + 2, none⟩ = some (.slice A523_2 ((rd_T30 l0 x4_2).f1).length c523_2) ∧ w'.cell? ⟨(ad520.add ((x4_2).toNat * 4)).block, (ad520.add ((x4_2).toNat * 4)).off + 3, none⟩ = some (.slice A523_3 ((rd_T30 l0 x4_2).f2).length c523_3) ∧ w'.cell? (ad520.add ((x3_1).toNat * 4)) = some (.int .i64 ((rd_T30 l0 x3_1).f0.f0)) ∧ w'.cell? ⟨(ad520.add ((x3_1).toNat * 4)).block, (ad520.add ((x3_1).toNat * 4)).off + 1, none⟩ = some (.int .i64 ((rd_T30 l0 x3_1).f0.f1)) ∧ w'.cell? ⟨(ad520.add ((x3_1).toNat * 4)).block, (ad520.add ((x3_1).toNat * 4)).off + 2, none⟩ = some (.slice A524_2 ((rd_T30 l0 x3_1).f1).length c524_2) ∧ w'.cell? ⟨(ad520.add ((x3_1).toNat * 4)).block, (ad520.add ((x3_1).toNat * 4)).off + 3, none⟩ = some (.slice A524_3 ((rd_T30 l0 x3_1).f2).length c524_3)) (ds := []) #[false, false, false, false, false, false, false, false, false, false, false, false, false, false, false, false, false, false, false, false, false, false, false] z24_4 rfl rfl ⟨((HB.out.cell (World.block_lt_of_cell? w _ hw523_0)).trans hw523_0), ((HB.out.cell (World.block_lt_of_cell? w _ hw523_1)).trans hw523_1), ((HB.out.cell (World.block_lt_of_cell? w _ hw523_2)).trans hw523_2), ((HB.out.cell (World.block_lt_of_cell? w _ hw523_3)).trans hw523_3), ((HB.out.cell (World.block_lt_of_cell? w _ hw524_0)).trans hw524_0), ((HB.out.cell (World.block_lt_of_cell? w _ hw524_1)).trans hw524_1), ((HB.out.cell (World.block_lt_of_cell? w _ hw524_2)).trans hw524_2), ((HB.out.cell (World.block_lt_of_cell? w _ hw524_3)).trans hw524_3)⟩ (fun hHeld => ?_); refine with_tabW hucksterlaw05_EventAhead.tab11 hucksterlaw05_EventAhead.bits11 (fun HT_ HW_ => ?_)
              generalize wr.drew = w23 at HB HR523_2 HR523_3 HR524_2 HR524_3 hx523_0 hx523_1 hx523_2 hx523_3 hx524_0 hx524_1 hx524_2 hx524_3 hHeld ⊢
              refine pure_ (i := 0) (N := some 31) (v := ?_) (a' := ?_) #[true, false, false, false, false, false, false, false, false, false, false, false, false, false, false, false, false, false, false, false, false, false, false] rfl rfl (any_of HT_.out z24_4) (fun _ _ _ h => h) (Or.inl ⟨by rfl, ?_⟩) ?_ ?_
              rotate_left
              ·intro w'
               go_simp
               with_reducible rfl
              rotate_left
              ·exact z24_0
              refine pure_ (i := 1) (N := some 32) (v := ?_) (a' := ?_) #[true, true, false, false, false, false, false, false, false, false, false, false, false, false, false, false, false, false, false, false, false, false, false] rfl rfl (any_of HT_.out z24_4) (fun _ _ _ h => h) (Or.inl ⟨by rfl, ?_⟩) ?_ ?_
              rotate_left
              ·intro w'
               go_simp
               with_reducible rfl
              rotate_left
              ·exact z24_0
              refine pure_ (i := 2) (N := some 33) (v := ?_) (a' := ?_) #[true, true, true, false, false, false, false, false, false, false, false, false, false, false, false, false, false, false, false, false, false, false, false] rfl rfl (any_of HT_.out z24_4) (fun _ _ _ h => h) (Or.inl ⟨by rfl, ?_⟩) ?_ ?_
              rotate_left
              ·intro w'
               go_simp
               with_reducible rfl
              rotate_left
              ·exact z24_0
              refine pure_ (i := 4) (N := some 35) (v := ?_) (a' := ?_) #[true, true, true, false, true, false, false, false, false, false, false, false, false, false, false, false, false, false, false, false, false, false, false] rfl rfl (any_of HT_.out z24_4) (fun _ _ _ h => h) (Or.inl ⟨by rfl, ?_⟩) ?_ ?_
              rotate_left
              ·intro w'
               go_simp
               with_reducible rfl
              rotate_left
              ·exact z24_0
              refine pure_ (i := 5) (N := some 36) (v := ?_) (a' := ?_) #[true, true, true, false, true, true, false, false, false, false, false, false, false, false, false, false, false, false, false, false, false, false, false] rfl rfl (any_of HT_.out z24_4) (fun _ _ _ h => h) (Or.inl ⟨by rfl, ?_⟩) ?_ ?_
              rotate_left
              ·intro w'
               go_simp
               with_reducible rfl
              rotate_left
              ·exact z24_0
              refine pure_ (i := 6) (N := some 37) (v := ?_) (a' := ?_) #[true, true, true, false, true, true, true, false, false, false, false, false, false, false, false, false, false, false, false, false, false, false, false] rfl rfl (any_of HT_.out z24_4) (fun _ _ _ h => h) (Or.inl ⟨by rfl, ?_⟩) ?_ ?_
              rotate_left
              ·intro w'
               go_simp
               with_reducible rfl
              rotate_left
              ·exact z24_0
              refine take_ (i := 3) (N := some 34) (v := ?_) (a' := ?_) #[true, true, true, true, true, true, true, false, false, false, false, false, false, false, false, false, false, false, false, false, false, false, false] rfl rfl (take_ofW HT_.out HW_.out z24_4) (fun _ _ _ h => h) (Or.inl ⟨by rfl, ?_⟩) hHeld ?_ ?_
              rotate_left
              ·rintro w' ⟨s0, s1, s2, s3, s4, s5, s6, s7⟩
               go_simp
               with_reducible rfl
              rotate_left
              ·exact z24_0
              refine take_ (i := 7) (N := some 38) (v := ?_) (a' := ?_) #[true, true, true, true, true, true, true, true, false, false, false, false, false, false, false, false, false, false, false, false, false, false, false] rfl rfl (take_ofW HT_.out HW_.out z24_4) (fun _ _ _ h => h) (Or.inl ⟨by rfl, ?_⟩) hHeld ?_ ?_
              rotate_left
              ·rintro w' ⟨s0, s1, s2, s3, s4, s5, s6, s7⟩
               go_simp
               with_reducible rfl
              rotate_left
              ·exact z24_0
              refine one_ (i := 8) (N := some 39) #[true, true, true, true, true, true, true, true, true, false, false, false, false, false, false, false, false, false, false, false, false, false, false] rfl rfl (one_of HT_.out z24_4) (by decide) (fun K hK => ?_)
              refine goes_ Try.func18 z24_4 rfl #[.agg #[.int .i64 ((rd_T30 l0 x4_2).f0.f0), .int .i64 ((rd_T30 l0 x4_2).f0.f1), .slice A523_2 ((rd_T30 l0 x4_2).f1).length c523_2, .slice A523_3 ((rd_T30 l0 x4_2).f2).length c523_3], .agg #[.int .i64 ((rd_T30 l0 x3_1).f0.f0), .int .i64 ((rd_T30 l0 x3_1).f0.f1), .slice A524_2 ((rd_T30 l0 x3_1).f1).length c524_2, .slice A524_3 ((rd_T30 l0 x3_1).f2).length c524_3]] (by rfl) rfl rfl z24_1 ?_
              with_reducible refine (hucksterref05_Ahead.calls k2 ((rd_T30 l0 x4_2).f0.f0) ((rd_T30 l0 x4_2).f0.f1) _ _ ((rd_T30 l0 x4_2).f1) _ _ ((rd_T30 l0 x4_2).f2) ((rd_T30 l0 x3_1).f0.f0) ((rd_T30 l0 x3_1).f0.f1) _ _ ((rd_T30 l0 x3_1).f1) _ _ ((rd_T30 l0 x3_1).f2) false _ ?side1 ?side2 ?side3 ?side4 ?side5 ?side6 ?side7 ?side8 A13.out).mono ?_
              (case side1 => exact z24_9)
              (case side2 => exact HC523_2.out)
              (case side3 => exact z24_10)
              (case side4 => exact HC523_3.out)
              (case side5 => exact z24_11)
              (case side6 => exact HC524_2.out)
              (case side7 => exact z24_12)
              (case side8 => exact HC524_3.out)
              rintro e w24 ⟨rfl, hb⟩
              refine ⟨_, rfl, ?_⟩
              have n0_ := Aside0.mk (below_step z24_2 hb)
              clear HB
              have HB := n0_
              clear n0_
              (try clear hb)
              (try clear hb2)
              (try clear hk)
              (try clear hi)
              refine hK.out _ _ ⟨((HB.out.cell (World.block_lt_of_cell? w _ hw523_0)).trans hw523_0), ((HB.out.cell (World.block_lt_of_cell? w _ hw523_1)).trans hw523_1), ((HB.out.cell (World.block_lt_of_cell? w _ hw523_2)).trans hw523_2), ((HB.out.cell (World.block_lt_of_cell? w _ hw523_3)).trans hw523_3), ((HB.out.cell (World.block_lt_of_cell? w _ hw524_0)).trans hw524_0), ((HB.out.cell (World.block_lt_of_cell? w _ hw524_1)).trans hw524_1), ((HB.out.cell (World.block_lt_of_cell? w _ hw524_2)).trans hw524_2), ((HB.out.cell (World.block_lt_of_cell? w _ hw524_3)).trans hw524_3)⟩ (fun hHeld => ?_)
              clear hK K
              refine norm_ (a' := ?_) ?_ ?_
              rotate_left
              ·exact z24_14
              refine pure_ (i := 9) (N := some 40) (v := ?_) (a' := ?_) #[true, true, true, true, true, true, true, true, true, true, false, false, false, false, false, false, false, false, false, false, false, false, false] rfl rfl (any_of HT_.out z24_4) (fun _ _ _ h => h) (Or.inl ⟨by rfl, ?_⟩) ?_ ?_
              rotate_left
              ·intro w'
               go_simp
               with_reducible rfl
              rotate_left
              ·exact z24_0
              refine pure_ (i := 10) (N := some 41) (v := undef) (a' := ?_) #[true, true, true, true, true, true, true, true, true, true, true, false, false, false, false, false, false, false, false, false, false, false, false] rfl rfl (any_of HT_.out z24_4) (fun _ _ _ h => h) (Or.inr ⟨by rfl, rfl⟩) ?_ ?_
              rotate_left
              ·exact z24_0
              refine pure_ (i := 11) (N := some 42) (v := undef) (a' := ?_) #[true, true, true, true, true, true, true, true, true, true, true, true, false, false, false, false, false, false, false, false, false, false, false] rfl rfl (any_of HT_.out z24_4) (fun _ _ _ h => h) (Or.inr ⟨by rfl, rfl⟩) ?_ ?_
              rotate_left
              ·exact z24_0
              refine pure_ (i := 12) (N := some 43) (v := undef) (a' := ?_) #[true, true, true, true, true, true, true, true, true, true, true, true, true, false, false, false, false, false, false, false, false, false, false] rfl rfl (any_of HT_.out z24_4) (fun _ _ _ h => h) (Or.inr ⟨by rfl, rfl⟩) ?_ ?_
              rotate_left
              ·exact z24_0
              refine pure_ (i := 13) (N := some 44) (v := undef) (a' := ?_) #[true, true, true, true, true, true, true, true, true, true, true, true, true, true, false, false, false, false, false, false, false, false, false] rfl rfl (any_of HT_.out z24_4) (fun _ _ _ h => h) (Or.inr ⟨by rfl, rfl⟩) ?_ ?_
              rotate_left
              ·exact z24_0
              refine pure_ (i := 14) (N := some 45) (v := undef) (a' := ?_) #[true, true, true, true, true, true, true, true, true, true, true, true, true, true, true, false, false, false, false, false, false, false, false] rfl rfl (any_of HT_.out z24_4) (fun _ _ _ h => h) (Or.inr ⟨by rfl, rfl⟩) ?_ ?_
              rotate_left
              ·exact z24_0
              refine pure_ (i := 15) (N := some 46) (v := undef) (a' := ?_) #[true, true, true, true, true, true, true, true, true, true, true, true, true, true, true, true, false, false, false, false, false, false, false] rfl rfl (any_of HT_.out z24_4) (fun _ _ _ h => h) (Or.inr ⟨by rfl, rfl⟩) ?_ ?_
              rotate_left
              ·exact z24_0
              refine pure_ (i := 16) (N := some 47) (v := undef) (a' := ?_) #[true, true, true, true, true, true, true, true, true, true, true, true, true, true, true, true, true, false, false, false, false, false, false] rfl rfl (any_of HT_.out z24_4) (fun _ _ _ h => h) (Or.inr ⟨by rfl, rfl⟩) ?_ ?_
              rotate_left
              ·exact z24_0
              refine pure_ (i := 17) (N := some 48) (v := undef) (a' := ?_) #[true, true, true, true, true, true, true, true, true, true, true, true, true, true, true, true, true, true, false, false, false, false, false] rfl rfl (any_of HT_.out z24_4) (fun _ _ _ h => h) (Or.inr ⟨by rfl, rfl⟩) ?_ ?_
              rotate_left
              ·exact z24_0
              refine pure_ (i := 18) (N := some 49) (v := undef) (a' := ?_) #[true, true, true, true, true, true, true, true, true, true, true, true, true, true, true, true, true, true, true, false, false, false, false] rfl rfl (any_of HT_.out z24_4) (fun _ _ _ h => h) (Or.inr ⟨by rfl, rfl⟩) ?_ ?_
              rotate_left
              ·exact z24_0
              refine pure_ (i := 19) (N := some 50) (v := undef) (a' := ?_) #[true, true, true, true, true, true, true, true, true, true, true, true, true, true, true, true, true, true, true, true, false, false, false] rfl rfl (any_of HT_.out z24_4) (fun _ _ _ h => h) (Or.inr ⟨by rfl, rfl⟩) ?_ ?_
              rotate_left
              ·exact z24_0
              refine pure_ (i := 20) (N := some 51) (v := undef) (a' := ?_) #[true, true, true, true, true, true, true, true, true, true, true, true, true, true, true, true, true, true, true, true, true, false, false] rfl rfl (any_of HT_.out z24_4) (fun _ _ _ h => h) (Or.inr ⟨by rfl, rfl⟩) ?_ ?_
              rotate_left
              ·exact z24_0
              refine pure_ (i := 21) (N := some 52) (v := undef) (a' := ?_) #[true, true, true, true, true, true, true, true, true, true, true, true, true, true, true, true, true, true, true, true, true, true, false] rfl rfl (any_of HT_.out z24_4) (fun _ _ _ h => h) (Or.inr ⟨by rfl, rfl⟩) ?_ ?_
              rotate_left
              ·exact z24_0
              refine pure_ (i := 22) (N := some 53) (v := ?_) (a' := ?_) #[true, true, true, true, true, true, true, true, true, true, true, true, true, true, true, true, true, true, true, true, true, true, true] rfl rfl (any_of HT_.out z24_4) (fun _ _ _ h => h) (Or.inl ⟨by rfl, ?_⟩) ?_ ?_
              rotate_left
              ·intro w'
               go_simp
               with_reducible rfl
              rotate_left
              ·exact z24_0
              refine done_ (done_of HT_.out z24_4) ?_
              try go_wp2
              go_roundg k2
              case measure => have := HK1.out; have := HK2.out; omega
              case rel => exact ⟨(wrap64 (x4_2 + 1)), z24_13, H', ⟨by have := HK1.out; have := HK2.out; omega⟩, ⟨by repeat (first | (with_reducible first | exact HB.out | apply below_alloc | apply pw_below_drewN | apply below_drew1) | exact HB.out)⟩⟩
            ·rw [if_neg c12] at H
             exact absurd H (by simp)
           ·rw [if_neg c11] at H
            exact absurd H (by simp)
          ·rw [if_neg c10] at H
           exact absurd H (by simp)
         ·rw [if_neg c9] at H
          have c9b0 : decide (x4_2 < (l0.length : Int)) = false := decide_eq_false c9
          clear c9
          have H' := Aside0.mk H
          clear H
          go_wp2
          go_roundg k2
          case measure => have := HK1.out; have := HK2.out; omega
          case rel => exact ⟨(wrap64 (x3_1 + 1)), z24_13, H', ⟨by have := HK1.out; have := HK2.out; omega⟩, ⟨by repeat (first | (with_reducible first | exact HB.out | apply below_alloc | apply pw_below_drewN | apply below_drew1) | exact HB.out)⟩⟩
      ·replace c7 := Bool.eq_false_iff.mpr c7
       subst c7
       have H1 : ((hucksterlaw05_awake.f k1).bind fun t522 => (some t522)) = some r := by rw [if_neg (show ¬ (false = true) by decide)] at H; exact H
       clear H
       have H := H1
       clear H1
       replace H := Option.bind_eq_some_iff.mp H
       obtain ⟨t522, A250, H⟩ := H
       replace H : (some t522) = some r := H
       have A25 := Aside0.mk A250
       clear A250
       obtain rfl := Option.some.inj H
       have p520 : 0 ≤ (x3_1 : Int) := of_decide_eq_true z24_3
       have q520 : x3_1 < (l0.length : Int) := of_decide_eq_true z24_3
       obtain ⟨ad520, A520_2, c520_2, A520_3, c520_3, e520, hx520_0, hx520_1, hx520_2, hx520_3, hl520_2, hi520_2, hl520_3, hi520_3⟩ := at_T30 HR0.out x3_1 p520 q520
       cases e520
       replace hx520_0 := (HB.out.cell (World.block_lt_of_cell? w _ hx520_0)).trans hx520_0
       replace hx520_1 := (HB.out.cell (World.block_lt_of_cell? w _ hx520_1)).trans hx520_1
       replace hx520_2 := (HB.out.cell (World.block_lt_of_cell? w _ hx520_2)).trans hx520_2
       replace hx520_3 := (HB.out.cell (World.block_lt_of_cell? w _ hx520_3)).trans hx520_3
       have HR520_2 := Aside0.mk hi520_2
       have HC520_2 := Aside0.mk hl520_2
       clear hi520_2 hl520_2
       have HR520_3 := Aside0.mk hi520_3
       have HC520_3 := Aside0.mk hl520_3
       clear hi520_3 hl520_3
       replace p520 := eq_true p520
       replace q520 := eq_true q520
       go_wp2_with (first | ((with_reducible refine gate_callee (f := 17) rfl ?_); refine goesL_ (some 22) rfl rfl Try.func17 z24_4 rfl #[.agg #[.int .i64 ((rd_T30 l0 x3_1).f0.f0), .int .i64 ((rd_T30 l0 x3_1).f0.f1), .slice A520_2 ((rd_T30 l0 x3_1).f1).length c520_2, .slice A520_3 ((rd_T30 l0 x3_1).f2).length c520_3]] rfl z24_1 ?_; (with_reducible refine (hucksterref05_May.calls k1 ((rd_T30 l0 x3_1).f0.f0) ((rd_T30 l0 x3_1).f0.f1) _ _ ((rd_T30 l0 x3_1).f1) _ _ ((rd_T30 l0 x3_1).f2) false _ ?side1 ?side2 ?side3 ?side4 A6.out).mono ?_); (case side1 => exact z24_16); (case side2 => exact HC520_2.out); (case side3 => exact z24_17); (case side4 => exact HC520_3.out); rintro e w26 ⟨rfl, hb⟩; refine ⟨_, rfl, ?_⟩; have n0_ := Aside0.mk (below_step z24_2 hb); clear HB; have HB := n0_; clear n0_; (try clear hb); (try clear hb2); (try clear hk); (try clear hi)) | ((with_reducible refine gate_callee (f := 12) rfl ?_); refine goesL_ (some 24) rfl rfl Try.func12 z24_4 rfl #[] rfl z24_1 ?_; (with_reducible refine (hucksterlaw05_awake.calls k1  t522 _ A25.out).mono ?_); rintro e w27 ⟨rfl, hb⟩; refine ⟨_, rfl, ?_⟩; have n0_ := Aside0.mk (below_step z24_2 hb); clear HB; have HB := n0_; clear n0_; (try clear hb); (try clear hb2); (try clear hk); (try clear hi)))
       go_ret
       exact ⟨by first | rfl | (simp [errW_none, errW_some] <;> rfl) | (simp [*, errW_none, errW_some] <;> rfl), by repeat (first | (with_reducible first | exact HB.out | apply below_alloc | apply pw_below_drewN | apply below_drew1) | exact HB.out)⟩
     ·rw [if_neg c5] at H
      exact absurd H (by simp)
    ·rw [if_neg c4] at H
     have c4b0 : decide (x3_1 < (l0.length : Int)) = false := decide_eq_false c4
     clear c4
     replace H := Option.bind_eq_some_iff.mp H
     obtain ⟨t530, A280, H⟩ := H
     replace H : (hucksterlaw05_EventAhead.l2 k1 l0 t530 0) = some r := H
     have A28 := Aside0.mk A280
     clear A280
     have H' := Aside0.mk H
     clear H
     go_wp2_with (first | ((with_reducible refine gate_callee (f := 20) rfl ?_); refine goesL_ (some 56) rfl rfl Try.func20 z24_4 rfl #[.slice A0 l0.length c0] rfl z24_1 ?_; (with_reducible refine (event_Order.calls (fun k_ => k_ < w.heap.size) _ _ l0 t530 _ ?side1 A28.out).mono ?_); (case side1 => exact Kd.V_mk HC0.out (Kd.F_below (Kd.C_F k30_heap HR0.out) z24_2)); rintro e w29 ⟨v531, rfl, ho0, hb⟩; refine ⟨_, rfl, ?_⟩; have n0_ := Aside0.mk (Kd.N_lower (Kd.N_mono (ok' := fun k_ => True) ho0 (fun k_ hk_ => trivial)) (below_size z24_2)); have n1_ := Aside0.mk (below_step z24_2 hb); clear HB; have HO532 := n0_; have HB := n1_; clear n0_ n1_; (try clear hb); (try clear hb2); (try clear hk); (try clear hi); (try clear ho0)))
     go_loopg [6] k1 (fun kq v6 w' => ∃ (x6_2 : Int), v6 = .int .i64 x6_2 ∧ Aside0 (hucksterlaw05_EventAhead.l2 kq l0 t530 x6_2 = some r) ∧ Aside0 (kq ≤ k1) ∧ Aside0 (Kd.N k30 30 w' w.heap.size (fun _ => True) v531 t530) ∧ Aside0 (Below w.heap.size w w'))
     case atStart => exact ⟨(0), z24_13, H', ⟨Nat.le_refl _⟩, ⟨by (with_reducible repeat (first | apply Kd.N_alloc | apply Kd.N_drewN | apply Kd.N_drew)); exact HO532.out⟩, ⟨by repeat (first | (with_reducible first | exact HB.out | apply below_alloc | apply pw_below_drewN | apply below_drew1) | exact HB.out)⟩⟩
     case round =>
      clear H'
      try clear c1
      try clear c2
      try clear p2
      try clear c4
      try clear c4b0
      try clear c5
      try clear p5
      try clear q5
      try clear hx5
      try clear p6
      try clear c7
      try clear c9
      try clear c9b0
      try clear c10
      try clear c11
      try clear c12
      try clear c14
      try clear c16
      try clear c17
      try clear c18
      try clear c19
      try clear c20
      try clear hx520_0
      try clear hx520_1
      try clear hx520_2
      try clear hx520_3
      try clear hx523_0
      try clear hx523_1
      try clear hx523_2
      try clear hx523_3
      try clear hx524_0
      try clear hx524_1
      try clear hx524_2
      try clear hx524_3
      try clear hx526_0
      try clear hx526_1
      try clear hx526_2
      try clear hx526_3
      try clear hx527_0
      try clear hx527_1
      try clear hx527_2
      try clear hx527_3
      try clear p520
      try clear p523
      try clear p524
      try clear p526
      try clear p527
      try clear q520
      try clear q523
      try clear q524
      try clear q526
      try clear q527
      obtain ⟨x6_2, rfl, HA, HK2, HO_5, HB⟩ := hrel
      cases gk with
      | zero => exact absurd HA.out (by simp [hucksterlaw05_EventAhead.l2])
      | succ k2 =>
       have H := HA.out
       clear HA
       simp only [hucksterlaw05_EventAhead.l2] at H
       by_cases c30 : x6_2 < (t530.length : Int)
       ·rw [if_pos c30] at H
        have c30b0 : decide (x6_2 < (t530.length : Int)) = true := decide_eq_true c30
        clear c30
        have H' := Aside0.mk H
        clear H
        obtain ⟨Ao31, co31, eo31⟩ := Kd.N_slice HO_5.out
        subst eo31
        go_wp2
        go_loopg [7] k2 (fun kq v7 w' => ∃ (x7_3 : Int), v7 = .int .i64 x7_3 ∧ Aside0 (hucksterlaw05_EventAhead.l3 kq l0 t530 x6_2 x7_3 = some r) ∧ Aside0 (kq ≤ k2) ∧ Aside0 (Kd.N k30 30 w' w.heap.size (fun _ => True) (.slice Ao31 t530.length co31) t530) ∧ Aside0 (Below w.heap.size w w'))
        case atStart => exact ⟨(0), z24_13, H', ⟨Nat.le_refl _⟩, ⟨by (with_reducible repeat (first | apply Kd.N_alloc | apply Kd.N_drewN | apply Kd.N_drew)); exact HO_5.out⟩, ⟨by repeat (first | (with_reducible first | exact HB.out | apply below_alloc | apply pw_below_drewN | apply below_drew1) | exact HB.out)⟩⟩
        case round =>
         clear H'
         try clear c1
         try clear c2
         try clear p2
         try clear c3
         try clear c4
         try clear c4b0
         try clear c5
         try clear p5
         try clear q5
         try clear hx5
         try clear p6
         try clear c7
         try clear c9
         try clear c9b0
         try clear c10
         try clear c11
         try clear c12
         try clear c14
         try clear c16
         try clear c17
         try clear c18
         try clear c19
         try clear c20
         try clear c30
         try clear c30b0
         try clear hx520_0
         try clear hx520_1
         try clear hx520_2
         try clear hx520_3
         try clear hx523_0
         try clear hx523_1
         try clear hx523_2
         try clear hx523_3
         try clear hx524_0
         try clear hx524_1
         try clear hx524_2
         try clear hx524_3
         try clear hx526_0
         try clear hx526_1
         try clear hx526_2
         try clear hx526_3
         try clear hx527_0
         try clear hx527_1
         try clear hx527_2
         try clear hx527_3
         try clear p2
         try clear p5
         try clear p520
         try clear p523
         try clear p524
         try clear p526
         try clear p527
         try clear p6
         try clear q5
         try clear q520
         try clear q523
         try clear q524
         try clear q526
         try clear q527
         obtain ⟨x7_3, rfl, HA, HK3, HO_5, HB⟩ := hrel
         cases gk with
         | zero => exact absurd HA.out (by simp [hucksterlaw05_EventAhead.l3])
         | succ k3 =>
          have H := HA.out
          clear HA
          simp only [hucksterlaw05_EventAhead.l3] at H
          by_cases c32 : x7_3 < x6_2
          ·rw [if_pos c32] at H
           have c32b0 : decide (x7_3 < x6_2) = true := decide_eq_true c32
           clear c32
           by_cases c33 : 0 ≤ x6_2
           ·rw [if_pos c33] at H
            have c33b0 : decide (0 ≤ x6_2) = true := decide_eq_true c33
            clear c33
            by_cases c34 : x6_2 < (t530.length : Int)
            ·rw [if_pos c34] at H
             have c34b0 : decide (x6_2 < (t530.length : Int)) = true := decide_eq_true c34
             clear c34
             by_cases c35 : 0 ≤ x7_3
             ·rw [if_pos c35] at H
              have c35b0 : decide (0 ≤ x7_3) = true := decide_eq_true c35
              clear c35
              by_cases c36 : x7_3 < (t530.length : Int)
              ·rw [if_pos c36] at H
               have c36b0 : decide (x7_3 < (t530.length : Int)) = true := decide_eq_true c36
               clear c36
               replace H := Option.bind_eq_some_iff.mp H
               obtain ⟨t536, A370, H⟩ := H
               replace H : (if t536 = true then (some false) else (hucksterlaw05_EventAhead.l3 k3 l0 t530 x6_2 (wrap64 (x7_3 + 1)))) = some r := H
               have A37 := Aside0.mk A370
               clear A370
               by_cases c38 : t536 = true
               ·subst c38
                have H1 : (some false) = some r := by rw [if_pos rfl] at H; exact H
                clear H
                have H := H1
                clear H1
                obtain rfl := Option.some.inj H
                try go_wp2
                have n0_ := Aside0.mk (Kd.N_drew HO_5.out)
                have n1_ := Aside0.mk (below_drew1 HB.out)
                clear HO_5
                clear HB
                have HO_5 := n0_
                have HB := n1_
                clear n0_ n1_
                have p534 : 0 ≤ (x6_2 : Int) := of_decide_eq_true z24_3
                have q534 : x6_2 < (t530.length : Int) := of_decide_eq_true z24_3
                obtain ⟨ad534, A534_2, c534_2, A534_3, c534_3, e534, hx534_0, hx534_1, hx534_2, hx534_3, hl534_2, hi534_2, hl534_3, hi534_3⟩ := at_T30 (Kd.N_reads' HO_5.out).2.2 x6_2 p534 q534
                cases e534
                obtain ⟨ce534, hce534, hMe534, hcc534⟩ := Kd.N_get HO_5.out z30 x6_2 p534 (by first | exact q534 | exact of_decide_eq_true z24_3 | (have e_ := (Kd.N_reads' HO_5.out).1; omega))
                obtain ⟨ua534_2, uc534_2, ua534_3, uc534_3, rfl, ul534_2, ge534_2, ul534_3, ge534_3⟩ := k30_openF hMe534
                have hv534_2 := hcc534 2 _ rfl
                rw [add_field _ _ 2 (by omega)] at hv534_2
                replace hv534_2 := Option.some.inj (hv534_2.symm.trans hx534_2)
                injection hv534_2 with hva_ hvn_ hvc_
                rw [hva_] at ge534_2
                rw [hvc_] at ul534_2
                have HL534_2 := Aside0.mk (show Kd.V (Kd.int .i64) 3 _ w.heap.size _ _ ((rd_T30 t530 x6_2).f1) from Kd.V_mk ul534_2 ge534_2)
                clear hva_ hvn_ hvc_ ge534_2 ul534_2
                have hv534_3 := hcc534 3 _ rfl
                rw [add_field _ _ 3 (by omega)] at hv534_3
                replace hv534_3 := Option.some.inj (hv534_3.symm.trans hx534_3)
                injection hv534_3 with hva_ hvn_ hvc_
                rw [hva_] at ge534_3
                rw [hvc_] at ul534_3
                have HL534_3 := Aside0.mk (show Kd.V k48 48 _ w.heap.size _ _ ((rd_T30 t530 x6_2).f2) from Kd.V_mk ul534_3 ge534_3)
                clear hva_ hvn_ hvc_ ge534_3 ul534_3
                clear hcc534 hce534
                have HR534_2 := Aside0.mk hi534_2
                have HC534_2 := Aside0.mk hl534_2
                clear hi534_2 hl534_2
                have HR534_3 := Aside0.mk hi534_3
                have HC534_3 := Aside0.mk hl534_3
                clear hi534_3 hl534_3
                replace p534 := eq_true p534
                replace q534 := eq_true q534
                have p535 : 0 ≤ (x7_3 : Int) := of_decide_eq_true z24_3
                have q535 : x7_3 < (t530.length : Int) := of_decide_eq_true z24_3
                obtain ⟨ad535, A535_2, c535_2, A535_3, c535_3, e535, hx535_0, hx535_1, hx535_2, hx535_3, hl535_2, hi535_2, hl535_3, hi535_3⟩ := at_T30 (Kd.N_reads' HO_5.out).2.2 x7_3 p535 q535
                obtain rfl : ad534 = ad535 := (by injection e535)
                obtain ⟨ce535, hce535, hMe535, hcc535⟩ := Kd.N_get HO_5.out z30 x7_3 p535 (by first | exact q535 | exact of_decide_eq_true z24_3 | (have e_ := (Kd.N_reads' HO_5.out).1; omega))
                obtain ⟨ua535_2, uc535_2, ua535_3, uc535_3, rfl, ul535_2, ge535_2, ul535_3, ge535_3⟩ := k30_openF hMe535
                have hv535_2 := hcc535 2 _ rfl
                rw [add_field _ _ 2 (by omega)] at hv535_2
                replace hv535_2 := Option.some.inj (hv535_2.symm.trans hx535_2)
                injection hv535_2 with hva_ hvn_ hvc_
                rw [hva_] at ge535_2
                rw [hvc_] at ul535_2
                have HL535_2 := Aside0.mk (show Kd.V (Kd.int .i64) 3 _ w.heap.size _ _ ((rd_T30 t530 x7_3).f1) from Kd.V_mk ul535_2 ge535_2)
                clear hva_ hvn_ hvc_ ge535_2 ul535_2
                have hv535_3 := hcc535 3 _ rfl
                rw [add_field _ _ 3 (by omega)] at hv535_3
                replace hv535_3 := Option.some.inj (hv535_3.symm.trans hx535_3)
                injection hv535_3 with hva_ hvn_ hvc_
                rw [hva_] at ge535_3
                rw [hvc_] at ul535_3
                have HL535_3 := Aside0.mk (show Kd.V k48 48 _ w.heap.size _ _ ((rd_T30 t530 x7_3).f2) from Kd.V_mk ul535_3 ge535_3)
                clear hva_ hvn_ hvc_ ge535_3 ul535_3
                clear hcc535 hce535
                have HR535_2 := Aside0.mk hi535_2
                have HC535_2 := Aside0.mk hl535_2
                clear hi535_2 hl535_2
                have HR535_3 := Aside0.mk hi535_3
                have HC535_3 := Aside0.mk hl535_3
                clear hi535_3 hl535_3
                replace p535 := eq_true p535
                replace q535 := eq_true q535
                refine start_ (n := 9) (S := fun w' => w'.cell? (ad534.add ((x6_2).toNat * 4)) = some (.int .i64 ((rd_T30 t530 x6_2).f0.f0)) ∧ w'.cell? ⟨(ad534.add ((x6_2).toNat * 4)).block, (ad534.add ((x6_2).toNat * 4)).off + 1, none⟩ = some (.int .i64 ((rd_T30 t530 x6_2).f0.f1)) ∧ w'.cell? ⟨(ad534.add ((x6_2).toNat * 4)).block, (ad534.add ((x6_2).toNat * 4)).off + 2, none⟩ = some (.slice A534_2 ((rd_T30 t530 x6_2).f1).length c534_2) ∧ w'.cell? ⟨(ad534.add ((x6_2).toNat * 4)).block, (ad534.add ((x6_2).toNat * 4)).off + 3, none⟩ = some (.slice A534_3 ((rd_T30 t530 x6_2).f2).length c534_3) ∧ w'.cell? (ad534.add ((x7_3).toNat * 4)) = some (.int .i64 ((rd_T30 t530 x7_3).f0.f0)) ∧ w'.cell? ⟨(ad534.add ((x7_3).toNat * 4)).block, (ad534.add ((x7_3).toNat * 4)).off + 1, none⟩ = some (.int .i64 ((rd_T30 t530 x7_3).f0.f1)) ∧ w'.cell? ⟨(ad534.add ((x7_3).toNat * 4)).block, (ad534.add ((x7_3).toNat * 4)).off + 2, none⟩ = some (.slice A535_2 ((rd_T30 t530 x7_3).f1).length c535_2) ∧ w'.cell? ⟨(ad534.add ((x7_3).toNat * 4)).block, (ad534.add ((x7_3).toNat * 4)).off + 3, none⟩ = some (.slice A535_3 ((rd_T30 t530 x7_3).f2).length c535_3)) (ds := []) #[false, false, false, false, false, false, false, false, false] z24_4 rfl rfl ⟨hx534_0, hx534_1, hx534_2, hx534_3, hx535_0, hx535_1, hx535_2, hx535_3⟩ (fun hHeld => ?_); refine with_tabW hucksterlaw05_EventAhead.tab20 hucksterlaw05_EventAhead.bits20 (fun HT_ HW_ => ?_)
                generalize wr.drew = w39 at HO_5 HB HL534_2 HL534_3 HL535_2 HL535_3 HR534_2 HR534_3 HR535_2 HR535_3 hx534_0 hx534_1 hx534_2 hx534_3 hx535_0 hx535_1 hx535_2 hx535_3 hHeld ⊢
                refine pure_ (i := 0) (N := some 68) (v := ?_) (a' := ?_) #[true, false, false, false, false, false, false, false, false] rfl rfl (any_of HT_.out z24_4) (fun _ _ _ h => h) (Or.inl ⟨by rfl, ?_⟩) ?_ ?_
                rotate_left
                ·intro w'
                 go_simp
                 with_reducible rfl
                rotate_left
                ·exact z24_0
                refine pure_ (i := 1) (N := some 69) (v := ?_) (a' := ?_) #[true, true, false, false, false, false, false, false, false] rfl rfl (any_of HT_.out z24_4) (fun _ _ _ h => h) (Or.inl ⟨by rfl, ?_⟩) ?_ ?_
                rotate_left
                ·intro w'
                 go_simp
                 with_reducible rfl
                rotate_left
                ·exact z24_0
                refine pure_ (i := 2) (N := some 70) (v := ?_) (a' := ?_) #[true, true, true, false, false, false, false, false, false] rfl rfl (any_of HT_.out z24_4) (fun _ _ _ h => h) (Or.inl ⟨by rfl, ?_⟩) ?_ ?_
                rotate_left
                ·intro w'
                 go_simp
                 with_reducible rfl
                rotate_left
                ·exact z24_0
                refine pure_ (i := 4) (N := some 72) (v := ?_) (a' := ?_) #[true, true, true, false, true, false, false, false, false] rfl rfl (any_of HT_.out z24_4) (fun _ _ _ h => h) (Or.inl ⟨by rfl, ?_⟩) ?_ ?_
                rotate_left
                ·intro w'
                 go_simp
                 with_reducible rfl
                rotate_left
                ·exact z24_0
                refine pure_ (i := 5) (N := some 73) (v := ?_) (a' := ?_) #[true, true, true, false, true, true, false, false, false] rfl rfl (any_of HT_.out z24_4) (fun _ _ _ h => h) (Or.inl ⟨by rfl, ?_⟩) ?_ ?_
                rotate_left
                ·intro w'
                 go_simp
                 with_reducible rfl
                rotate_left
                ·exact z24_0
                refine pure_ (i := 6) (N := some 74) (v := ?_) (a' := ?_) #[true, true, true, false, true, true, true, false, false] rfl rfl (any_of HT_.out z24_4) (fun _ _ _ h => h) (Or.inl ⟨by rfl, ?_⟩) ?_ ?_
                rotate_left
                ·intro w'
                 go_simp
                 with_reducible rfl
                rotate_left
                ·exact z24_0
                refine take_ (i := 3) (N := some 71) (v := ?_) (a' := ?_) #[true, true, true, true, true, true, true, false, false] rfl rfl (take_ofW HT_.out HW_.out z24_4) (fun _ _ _ h => h) (Or.inl ⟨by rfl, ?_⟩) hHeld ?_ ?_
                rotate_left
                ·rintro w' ⟨s0, s1, s2, s3, s4, s5, s6, s7⟩
                 go_simp
                 with_reducible rfl
                rotate_left
                ·exact z24_0
                refine take_ (i := 7) (N := some 75) (v := ?_) (a' := ?_) #[true, true, true, true, true, true, true, true, false] rfl rfl (take_ofW HT_.out HW_.out z24_4) (fun _ _ _ h => h) (Or.inl ⟨by rfl, ?_⟩) hHeld ?_ ?_
                rotate_left
                ·rintro w' ⟨s0, s1, s2, s3, s4, s5, s6, s7⟩
                 go_simp
                 with_reducible rfl
                rotate_left
                ·exact z24_0
                refine one_ (i := 8) (N := some 76) #[true, true, true, true, true, true, true, true, true] rfl rfl (one_of HT_.out z24_4) (by decide) (fun K hK => ?_)
                refine goes_ Try.func21 z24_4 rfl #[.agg #[.int .i64 ((rd_T30 t530 x6_2).f0.f0), .int .i64 ((rd_T30 t530 x6_2).f0.f1), .slice A534_2 ((rd_T30 t530 x6_2).f1).length c534_2, .slice A534_3 ((rd_T30 t530 x6_2).f2).length c534_3], .agg #[.int .i64 ((rd_T30 t530 x7_3).f0.f0), .int .i64 ((rd_T30 t530 x7_3).f0.f1), .slice A535_2 ((rd_T30 t530 x7_3).f1).length c535_2, .slice A535_3 ((rd_T30 t530 x7_3).f2).length c535_3]] (by rfl) rfl rfl z24_1 ?_
                with_reducible refine (event_Ahead.calls ((rd_T30 t530 x6_2).f0.f0) ((rd_T30 t530 x6_2).f0.f1) _ _ ((rd_T30 t530 x6_2).f1) _ _ ((rd_T30 t530 x6_2).f2) ((rd_T30 t530 x7_3).f0.f0) ((rd_T30 t530 x7_3).f0.f1) _ _ ((rd_T30 t530 x7_3).f1) _ _ ((rd_T30 t530 x7_3).f2) true _ ?side1 ?side2 ?side3 ?side4 ?side5 ?side6 ?side7 ?side8 A37.out).mono ?_
                (case side1 => exact z24_21)
                (case side2 => exact HC534_2.out)
                (case side3 => exact z24_22)
                (case side4 => exact HC534_3.out)
                (case side5 => exact z24_23)
                (case side6 => exact HC535_2.out)
                (case side7 => exact z24_24)
                (case side8 => exact HC535_3.out)
                rintro e w40 ⟨rfl, hb⟩
                have HS0_ := (hb.cell (World.block_lt_of_cell? _ _ (hHeld.1))).trans (hHeld.1)
                have HS1_ := (hb.cell (World.block_lt_of_cell? _ _ (hHeld.2.1))).trans (hHeld.2.1)
                have HS2_ := (hb.cell (World.block_lt_of_cell? _ _ (hHeld.2.2.1))).trans (hHeld.2.2.1)
                have HS3_ := (hb.cell (World.block_lt_of_cell? _ _ (hHeld.2.2.2.1))).trans (hHeld.2.2.2.1)
                have HS4_ := (hb.cell (World.block_lt_of_cell? _ _ (hHeld.2.2.2.2.1))).trans (hHeld.2.2.2.2.1)
                have HS5_ := (hb.cell (World.block_lt_of_cell? _ _ (hHeld.2.2.2.2.2.1))).trans (hHeld.2.2.2.2.2.1)
                have HS6_ := (hb.cell (World.block_lt_of_cell? _ _ (hHeld.2.2.2.2.2.2.1))).trans (hHeld.2.2.2.2.2.2.1)
                have HS7_ := (hb.cell (World.block_lt_of_cell? _ _ (hHeld.2.2.2.2.2.2.2))).trans (hHeld.2.2.2.2.2.2.2)
                refine ⟨_, rfl, ?_⟩
                have n0_ := Aside0.mk (Kd.N_below z24_15 hb)
                have n1_ := Aside0.mk (Kd.V_below (by (with_reducible repeat (first | apply Kd.V_alloc | apply Kd.V_drewN | apply Kd.V_drew)); exact HL534_2.out) hb)
                have n2_ := Aside0.mk (Kd.V_below (by (with_reducible repeat (first | apply Kd.V_alloc | apply Kd.V_drewN | apply Kd.V_drew)); exact HL534_3.out) hb)
                have n3_ := Aside0.mk (Kd.V_below (by (with_reducible repeat (first | apply Kd.V_alloc | apply Kd.V_drewN | apply Kd.V_drew)); exact HL535_2.out) hb)
                have n4_ := Aside0.mk (Kd.V_below (by (with_reducible repeat (first | apply Kd.V_alloc | apply Kd.V_drewN | apply Kd.V_drew)); exact HL535_3.out) hb)
                have n5_ := Aside0.mk (Kd.C_below z24_5 hb)
                have n6_ := Aside0.mk (Kd.C_below z24_6 hb)
                have n7_ := Aside0.mk (Kd.C_below z24_7 hb)
                have n8_ := Aside0.mk (Kd.C_below z24_8 hb)
                have n9_ := Aside0.mk (below_step z24_2 hb)
                clear HO_5
                clear HL534_2
                clear HL534_3
                clear HL535_2
                clear HL535_3
                clear HR534_2
                clear HR534_3
                clear HR535_2
                clear HR535_3
                clear HB
                have HO_5 := n0_
                have HL534_2 := n1_
                have HL534_3 := n2_
                have HL535_2 := n3_
                have HL535_3 := n4_
                have HR534_2 := n5_
                have HR534_3 := n6_
                have HR535_2 := n7_
                have HR535_3 := n8_
                have HB := n9_
                clear n0_ n1_ n2_ n3_ n4_ n5_ n6_ n7_ n8_ n9_
                (try clear hb)
                (try clear hb2)
                (try clear hk)
                (try clear hi)
                refine hK.out _ _ ⟨HS0_, HS1_, HS2_, HS3_, HS4_, HS5_, HS6_, HS7_⟩ (fun hHeld => ?_)
                clear hK K
                refine norm_ (a' := ?_) ?_ ?_
                rotate_left
                ·show Act.put _ (some 76) _ = _; simp only [Act.put, List.setIfInBounds_toArray, List.set_cons_zero, List.set_cons_succ, i64_w, i32_w]; rfl
                refine done_ (done_of HT_.out z24_4) ?_
                try go_wp2
                go_ret
                exact ⟨by first | rfl | (simp [errW_none, errW_some] <;> rfl) | (simp [*, errW_none, errW_some] <;> rfl), by repeat (first | (with_reducible first | exact HB.out | apply below_alloc | apply pw_below_drewN | apply below_drew1) | exact HB.out)⟩
               ·replace c38 := Bool.eq_false_iff.mpr c38
                subst c38
                have H1 : (hucksterlaw05_EventAhead.l3 k3 l0 t530 x6_2 (wrap64 (x7_3 + 1))) = some r := by rw [if_neg (show ¬ (false = true) by decide)] at H; exact H
                clear H
                have H := H1
                clear H1
                have H' := Aside0.mk H
                clear H
                try go_wp2
                have n0_ := Aside0.mk (Kd.N_drew HO_5.out)
                have n1_ := Aside0.mk (below_drew1 HB.out)
                clear HO_5
                clear HB
                have HO_5 := n0_
                have HB := n1_
                clear n0_ n1_
                have p534 : 0 ≤ (x6_2 : Int) := of_decide_eq_true z24_3
                have q534 : x6_2 < (t530.length : Int) := of_decide_eq_true z24_3
                obtain ⟨ad534, A534_2, c534_2, A534_3, c534_3, e534, hx534_0, hx534_1, hx534_2, hx534_3, hl534_2, hi534_2, hl534_3, hi534_3⟩ := at_T30 (Kd.N_reads' HO_5.out).2.2 x6_2 p534 q534
                cases e534
                obtain ⟨ce534, hce534, hMe534, hcc534⟩ := Kd.N_get HO_5.out z30 x6_2 p534 (by first | exact q534 | exact of_decide_eq_true z24_3 | (have e_ := (Kd.N_reads' HO_5.out).1; omega))
                obtain ⟨ua534_2, uc534_2, ua534_3, uc534_3, rfl, ul534_2, ge534_2, ul534_3, ge534_3⟩ := k30_openF hMe534
                have hv534_2 := hcc534 2 _ rfl
                rw [add_field _ _ 2 (by omega)] at hv534_2
                replace hv534_2 := Option.some.inj (hv534_2.symm.trans hx534_2)
                injection hv534_2 with hva_ hvn_ hvc_
                rw [hva_] at ge534_2
                rw [hvc_] at ul534_2
                have HL534_2 := Aside0.mk (show Kd.V (Kd.int .i64) 3 _ w.heap.size _ _ ((rd_T30 t530 x6_2).f1) from Kd.V_mk ul534_2 ge534_2)
                clear hva_ hvn_ hvc_ ge534_2 ul534_2
                have hv534_3 := hcc534 3 _ rfl
                rw [add_field _ _ 3 (by omega)] at hv534_3
                replace hv534_3 := Option.some.inj (hv534_3.symm.trans hx534_3)
                injection hv534_3 with hva_ hvn_ hvc_
                rw [hva_] at ge534_3
                rw [hvc_] at ul534_3
                have HL534_3 := Aside0.mk (show Kd.V k48 48 _ w.heap.size _ _ ((rd_T30 t530 x6_2).f2) from Kd.V_mk ul534_3 ge534_3)
                clear hva_ hvn_ hvc_ ge534_3 ul534_3
                clear hcc534 hce534
                have HR534_2 := Aside0.mk hi534_2
                have HC534_2 := Aside0.mk hl534_2
                clear hi534_2 hl534_2
                have HR534_3 := Aside0.mk hi534_3
                have HC534_3 := Aside0.mk hl534_3
                clear hi534_3 hl534_3
                replace p534 := eq_true p534
                replace q534 := eq_true q534
                have p535 : 0 ≤ (x7_3 : Int) := of_decide_eq_true z24_3
                have q535 : x7_3 < (t530.length : Int) := of_decide_eq_true z24_3
                obtain ⟨ad535, A535_2, c535_2, A535_3, c535_3, e535, hx535_0, hx535_1, hx535_2, hx535_3, hl535_2, hi535_2, hl535_3, hi535_3⟩ := at_T30 (Kd.N_reads' HO_5.out).2.2 x7_3 p535 q535
                obtain rfl : ad534 = ad535 := (by injection e535)
                obtain ⟨ce535, hce535, hMe535, hcc535⟩ := Kd.N_get HO_5.out z30 x7_3 p535 (by first | exact q535 | exact of_decide_eq_true z24_3 | (have e_ := (Kd.N_reads' HO_5.out).1; omega))
                obtain ⟨ua535_2, uc535_2, ua535_3, uc535_3, rfl, ul535_2, ge535_2, ul535_3, ge535_3⟩ := k30_openF hMe535
                have hv535_2 := hcc535 2 _ rfl
                rw [add_field _ _ 2 (by omega)] at hv535_2
                replace hv535_2 := Option.some.inj (hv535_2.symm.trans hx535_2)
                injection hv535_2 with hva_ hvn_ hvc_
                rw [hva_] at ge535_2
                rw [hvc_] at ul535_2
                have HL535_2 := Aside0.mk (show Kd.V (Kd.int .i64) 3 _ w.heap.size _ _ ((rd_T30 t530 x7_3).f1) from Kd.V_mk ul535_2 ge535_2)
                clear hva_ hvn_ hvc_ ge535_2 ul535_2
                have hv535_3 := hcc535 3 _ rfl
                rw [add_field _ _ 3 (by omega)] at hv535_3
                replace hv535_3 := Option.some.inj (hv535_3.symm.trans hx535_3)
                injection hv535_3 with hva_ hvn_ hvc_
                rw [hva_] at ge535_3
                rw [hvc_] at ul535_3
                have HL535_3 := Aside0.mk (show Kd.V k48 48 _ w.heap.size _ _ ((rd_T30 t530 x7_3).f2) from Kd.V_mk ul535_3 ge535_3)
                clear hva_ hvn_ hvc_ ge535_3 ul535_3
                clear hcc535 hce535
                have HR535_2 := Aside0.mk hi535_2
                have HC535_2 := Aside0.mk hl535_2
                clear hi535_2 hl535_2
                have HR535_3 := Aside0.mk hi535_3
                have HC535_3 := Aside0.mk hl535_3
                clear hi535_3 hl535_3
                replace p535 := eq_true p535
                replace q535 := eq_true q535
                refine start_ (n := 9) (S := fun w' => w'.cell? (ad534.add ((x6_2).toNat * 4)) = some (.int .i64 ((rd_T30 t530 x6_2).f0.f0)) ∧ w'.cell? ⟨(ad534.add ((x6_2).toNat * 4)).block, (ad534.add ((x6_2).toNat * 4)).off + 1, none⟩ = some (.int .i64 ((rd_T30 t530 x6_2).f0.f1)) ∧ w'.cell? ⟨(ad534.add ((x6_2).toNat * 4)).block, (ad534.add ((x6_2).toNat * 4)).off + 2, none⟩ = some (.slice A534_2 ((rd_T30 t530 x6_2).f1).length c534_2) ∧ w'.cell? ⟨(ad534.add ((x6_2).toNat * 4)).block, (ad534.add ((x6_2).toNat * 4)).off + 3, none⟩ = some (.slice A534_3 ((rd_T30 t530 x6_2).f2).length c534_3) ∧ w'.cell? (ad534.add ((x7_3).toNat * 4)) = some (.int .i64 ((rd_T30 t530 x7_3).f0.f0)) ∧ w'.cell? ⟨(ad534.add ((x7_3).toNat * 4)).block, (ad534.add ((x7_3).toNat * 4)).off + 1, none⟩ = some (.int .i64 ((rd_T30 t530 x7_3).f0.f1)) ∧ w'.cell? ⟨(ad534.add ((x7_3).toNat * 4)).block, (ad534.add ((x7_3).toNat * 4)).off + 2, none⟩ = some (.slice A535_2 ((rd_T30 t530 x7_3).f1).length c535_2) ∧ w'.cell? ⟨(ad534.add ((x7_3).toNat * 4)).block, (ad534.add ((x7_3).toNat * 4)).off + 3, none⟩ = some (.slice A535_3 ((rd_T30 t530 x7_3).f2).length c535_3)) (ds := []) #[false, false, false, false, false, false, false, false, false] z24_4 rfl rfl ⟨hx534_0, hx534_1, hx534_2, hx534_3, hx535_0, hx535_1, hx535_2, hx535_3⟩ (fun hHeld => ?_); refine with_tabW hucksterlaw05_EventAhead.tab20 hucksterlaw05_EventAhead.bits20 (fun HT_ HW_ => ?_)
                generalize wr.drew = w41 at HO_5 HB HL534_2 HL534_3 HL535_2 HL535_3 HR534_2 HR534_3 HR535_2 HR535_3 hx534_0 hx534_1 hx534_2 hx534_3 hx535_0 hx535_1 hx535_2 hx535_3 hHeld ⊢
                refine pure_ (i := 0) (N := some 68) (v := ?_) (a' := ?_) #[true, false, false, false, false, false, false, false, false] rfl rfl (any_of HT_.out z24_4) (fun _ _ _ h => h) (Or.inl ⟨by rfl, ?_⟩) ?_ ?_
                rotate_left
                ·intro w'
                 go_simp
                 with_reducible rfl
                rotate_left
                ·exact z24_0
                refine pure_ (i := 1) (N := some 69) (v := ?_) (a' := ?_) #[true, true, false, false, false, false, false, false, false] rfl rfl (any_of HT_.out z24_4) (fun _ _ _ h => h) (Or.inl ⟨by rfl, ?_⟩) ?_ ?_
                rotate_left
                ·intro w'
                 go_simp
                 with_reducible rfl
                rotate_left
                ·exact z24_0
                refine pure_ (i := 2) (N := some 70) (v := ?_) (a' := ?_) #[true, true, true, false, false, false, false, false, false] rfl rfl (any_of HT_.out z24_4) (fun _ _ _ h => h) (Or.inl ⟨by rfl, ?_⟩) ?_ ?_
                rotate_left
                ·intro w'
                 go_simp
                 with_reducible rfl
                rotate_left
                ·exact z24_0
                refine pure_ (i := 4) (N := some 72) (v := ?_) (a' := ?_) #[true, true, true, false, true, false, false, false, false] rfl rfl (any_of HT_.out z24_4) (fun _ _ _ h => h) (Or.inl ⟨by rfl, ?_⟩) ?_ ?_
                rotate_left
                ·intro w'
                 go_simp
                 with_reducible rfl
                rotate_left
                ·exact z24_0
                refine pure_ (i := 5) (N := some 73) (v := ?_) (a' := ?_) #[true, true, true, false, true, true, false, false, false] rfl rfl (any_of HT_.out z24_4) (fun _ _ _ h => h) (Or.inl ⟨by rfl, ?_⟩) ?_ ?_
                rotate_left
                ·intro w'
                 go_simp
                 with_reducible rfl
                rotate_left
                ·exact z24_0
                refine pure_ (i := 6) (N := some 74) (v := ?_) (a' := ?_) #[true, true, true, false, true, true, true, false, false] rfl rfl (any_of HT_.out z24_4) (fun _ _ _ h => h) (Or.inl ⟨by rfl, ?_⟩) ?_ ?_
                rotate_left
                ·intro w'
                 go_simp
                 with_reducible rfl
                rotate_left
                ·exact z24_0
                refine take_ (i := 3) (N := some 71) (v := ?_) (a' := ?_) #[true, true, true, true, true, true, true, false, false] rfl rfl (take_ofW HT_.out HW_.out z24_4) (fun _ _ _ h => h) (Or.inl ⟨by rfl, ?_⟩) hHeld ?_ ?_
                rotate_left
                ·rintro w' ⟨s0, s1, s2, s3, s4, s5, s6, s7⟩
                 go_simp
                 with_reducible rfl
                rotate_left
                ·exact z24_0
                refine take_ (i := 7) (N := some 75) (v := ?_) (a' := ?_) #[true, true, true, true, true, true, true, true, false] rfl rfl (take_ofW HT_.out HW_.out z24_4) (fun _ _ _ h => h) (Or.inl ⟨by rfl, ?_⟩) hHeld ?_ ?_
                rotate_left
                ·rintro w' ⟨s0, s1, s2, s3, s4, s5, s6, s7⟩
                 go_simp
                 with_reducible rfl
                rotate_left
                ·exact z24_0
                refine one_ (i := 8) (N := some 76) #[true, true, true, true, true, true, true, true, true] rfl rfl (one_of HT_.out z24_4) (by decide) (fun K hK => ?_)
                refine goes_ Try.func21 z24_4 rfl #[.agg #[.int .i64 ((rd_T30 t530 x6_2).f0.f0), .int .i64 ((rd_T30 t530 x6_2).f0.f1), .slice A534_2 ((rd_T30 t530 x6_2).f1).length c534_2, .slice A534_3 ((rd_T30 t530 x6_2).f2).length c534_3], .agg #[.int .i64 ((rd_T30 t530 x7_3).f0.f0), .int .i64 ((rd_T30 t530 x7_3).f0.f1), .slice A535_2 ((rd_T30 t530 x7_3).f1).length c535_2, .slice A535_3 ((rd_T30 t530 x7_3).f2).length c535_3]] (by rfl) rfl rfl z24_1 ?_
                with_reducible refine (event_Ahead.calls ((rd_T30 t530 x6_2).f0.f0) ((rd_T30 t530 x6_2).f0.f1) _ _ ((rd_T30 t530 x6_2).f1) _ _ ((rd_T30 t530 x6_2).f2) ((rd_T30 t530 x7_3).f0.f0) ((rd_T30 t530 x7_3).f0.f1) _ _ ((rd_T30 t530 x7_3).f1) _ _ ((rd_T30 t530 x7_3).f2) false _ ?side1 ?side2 ?side3 ?side4 ?side5 ?side6 ?side7 ?side8 A37.out).mono ?_
                (case side1 => exact z24_21)
                (case side2 => exact HC534_2.out)
                (case side3 => exact z24_22)
                (case side4 => exact HC534_3.out)
                (case side5 => exact z24_23)
                (case side6 => exact HC535_2.out)
                (case side7 => exact z24_24)
                (case side8 => exact HC535_3.out)
                rintro e w42 ⟨rfl, hb⟩
                have HS0_ := (hb.cell (World.block_lt_of_cell? _ _ (hHeld.1))).trans (hHeld.1)
                have HS1_ := (hb.cell (World.block_lt_of_cell? _ _ (hHeld.2.1))).trans (hHeld.2.1)
                have HS2_ := (hb.cell (World.block_lt_of_cell? _ _ (hHeld.2.2.1))).trans (hHeld.2.2.1)
                have HS3_ := (hb.cell (World.block_lt_of_cell? _ _ (hHeld.2.2.2.1))).trans (hHeld.2.2.2.1)
                have HS4_ := (hb.cell (World.block_lt_of_cell? _ _ (hHeld.2.2.2.2.1))).trans (hHeld.2.2.2.2.1)
                have HS5_ := (hb.cell (World.block_lt_of_cell? _ _ (hHeld.2.2.2.2.2.1))).trans (hHeld.2.2.2.2.2.1)
                have HS6_ := (hb.cell (World.block_lt_of_cell? _ _ (hHeld.2.2.2.2.2.2.1))).trans (hHeld.2.2.2.2.2.2.1)
                have HS7_ := (hb.cell (World.block_lt_of_cell? _ _ (hHeld.2.2.2.2.2.2.2))).trans (hHeld.2.2.2.2.2.2.2)
                refine ⟨_, rfl, ?_⟩
                have n0_ := Aside0.mk (Kd.N_below z24_15 hb)
                have n1_ := Aside0.mk (Kd.V_below (by (with_reducible repeat (first | apply Kd.V_alloc | apply Kd.V_drewN | apply Kd.V_drew)); exact HL534_2.out) hb)
                have n2_ := Aside0.mk (Kd.V_below (by (with_reducible repeat (first | apply Kd.V_alloc | apply Kd.V_drewN | apply Kd.V_drew)); exact HL534_3.out) hb)
                have n3_ := Aside0.mk (Kd.V_below (by (with_reducible repeat (first | apply Kd.V_alloc | apply Kd.V_drewN | apply Kd.V_drew)); exact HL535_2.out) hb)
                have n4_ := Aside0.mk (Kd.V_below (by (with_reducible repeat (first | apply Kd.V_alloc | apply Kd.V_drewN | apply Kd.V_drew)); exact HL535_3.out) hb)
                have n5_ := Aside0.mk (Kd.C_below z24_5 hb)
                have n6_ := Aside0.mk (Kd.C_below z24_6 hb)
                have n7_ := Aside0.mk (Kd.C_below z24_7 hb)
                have n8_ := Aside0.mk (Kd.C_below z24_8 hb)
                have n9_ := Aside0.mk (below_step z24_2 hb)
                clear HO_5
                clear HL534_2
                clear HL534_3
                clear HL535_2
                clear HL535_3
                clear HR534_2
                clear HR534_3
                clear HR535_2
                clear HR535_3
                clear HB
                have HO_5 := n0_
                have HL534_2 := n1_
                have HL534_3 := n2_
                have HL535_2 := n3_
                have HL535_3 := n4_
                have HR534_2 := n5_
                have HR534_3 := n6_
                have HR535_2 := n7_
                have HR535_3 := n8_
                have HB := n9_
                clear n0_ n1_ n2_ n3_ n4_ n5_ n6_ n7_ n8_ n9_
                (try clear hb)
                (try clear hb2)
                (try clear hk)
                (try clear hi)
                refine hK.out _ _ ⟨HS0_, HS1_, HS2_, HS3_, HS4_, HS5_, HS6_, HS7_⟩ (fun hHeld => ?_)
                clear hK K
                refine norm_ (a' := ?_) ?_ ?_
                rotate_left
                ·show Act.put _ (some 76) _ = _; simp only [Act.put, List.setIfInBounds_toArray, List.set_cons_zero, List.set_cons_succ, i64_w, i32_w]; rfl
                refine done_ (done_of HT_.out z24_4) ?_
                try go_wp2
                go_roundg k3
                case measure => have := HK1.out; have := HK2.out; have := HK3.out; omega
                case rel => exact ⟨(wrap64 (x7_3 + 1)), z24_13, H', ⟨by have := HK1.out; have := HK2.out; have := HK3.out; omega⟩, ⟨by (with_reducible repeat (first | apply Kd.N_alloc | apply Kd.N_drewN | apply Kd.N_drew)); exact HO_5.out⟩, ⟨by repeat (first | (with_reducible first | exact HB.out | apply below_alloc | apply pw_below_drewN | apply below_drew1) | exact HB.out)⟩⟩
              ·rw [if_neg c36] at H
               exact absurd H (by simp)
             ·rw [if_neg c35] at H
              exact absurd H (by simp)
            ·rw [if_neg c34] at H
             exact absurd H (by simp)
           ·rw [if_neg c33] at H
            exact absurd H (by simp)
          ·rw [if_neg c32] at H
           have c32b0 : decide (x7_3 < x6_2) = false := decide_eq_false c32
           clear c32
           have H' := Aside0.mk H
           clear H
           go_wp2
           go_roundg k3
           case measure => have := HK1.out; have := HK2.out; have := HK3.out; omega
           case rel => exact ⟨(wrap64 (x6_2 + 1)), z24_13, H', ⟨by have := HK1.out; have := HK2.out; have := HK3.out; omega⟩, ⟨by (with_reducible repeat (first | apply Kd.N_alloc | apply Kd.N_drewN | apply Kd.N_drew)); exact HO_5.out⟩, ⟨by repeat (first | (with_reducible first | exact HB.out | apply below_alloc | apply pw_below_drewN | apply below_drew1) | exact HB.out)⟩⟩
       ·rw [if_neg c30] at H
        have c30b0 : decide (x6_2 < (t530.length : Int)) = false := decide_eq_false c30
        clear c30
        by_cases c43 : (t530.length : Int) = (l0.length : Int)
        ·rw [if_pos c43] at H
         have c43b0 : ((t530.length : Int) == (l0.length : Int)) = true := beq_iff_eq.mpr c43
         have c43b1 : ((t530.length : Int) != (l0.length : Int)) = false := bne_eq_false_iff_eq.mpr c43
         have c43b2 : (t530.length == l0.length) = true := by first | simpa using c43 | (simp at c43 ⊢; omega)
         clear c43
         replace H := Option.bind_eq_some_iff.mp H
         obtain ⟨t533, A440, H⟩ := H
         replace H : (some t533) = some r := H
         have A44 := Aside0.mk A440
         clear A440
         obtain rfl := Option.some.inj H
         obtain ⟨Ao45, co45, eo45⟩ := Kd.N_slice HO_5.out
         subst eo45
         go_wp2_with (first | (go_at_call 12; (with_reducible refine (hucksterlaw05_awake.calls k2  t533 _ A44.out).mono ?_); rintro e w46 ⟨rfl, hb⟩; have n0_ := Aside0.mk (Kd.N_below z24_15 hb); have n1_ := Aside0.mk (below_step z24_2 hb); clear HO_5; clear HB; have HO_5 := n0_; have HB := n1_; clear n0_ n1_; (try clear hb); (try clear hb2); (try clear hk); (try clear hi)))
         go_ret
         exact ⟨by first | rfl | (simp [errW_none, errW_some] <;> rfl) | (simp [*, errW_none, errW_some] <;> rfl), by repeat (first | (with_reducible first | exact HB.out | apply below_alloc | apply pw_below_drewN | apply below_drew1) | exact HB.out)⟩
        ·rw [if_neg c43] at H
         have c43b0 : ((t530.length : Int) == (l0.length : Int)) = false := beq_eq_false_iff_ne.mpr c43
         have c43b1 : ((t530.length : Int) != (l0.length : Int)) = true := bne_iff_ne.mpr c43
         have c43b2 : (t530.length == l0.length) = false := by first | simpa using c43 | (simp at c43 ⊢; omega)
         obtain rfl := Option.some.inj H
         obtain ⟨Ao47, co47, eo47⟩ := Kd.N_slice HO_5.out
         subst eo47
         go_wp2
         go_ret
         exact ⟨by first | rfl | (simp [errW_none, errW_some] <;> rfl) | (simp [*, errW_none, errW_some] <;> rfl), by repeat (first | (with_reducible first | exact HB.out | apply below_alloc | apply pw_below_drewN | apply below_drew1) | exact HB.out)⟩
 ·replace c3 := Bool.eq_false_iff.mpr c3
  subst c3
  have H1 : ((hucksterlaw05_awake.f k).bind fun t519 => (some t519)) = some r := by rw [if_neg (show ¬ (false = true) by decide)] at H; exact H
  clear H
  have H := H1
  clear H1
  replace H := Option.bind_eq_some_iff.mp H
  obtain ⟨t519, A480, H⟩ := H
  replace H : (some t519) = some r := H
  have A48 := Aside0.mk A480
  clear A480
  obtain rfl := Option.some.inj H
  go_enter Try.func4, Try.ntmps4
  go_wp2_with (first | ((with_reducible refine gate_callee (f := 16) rfl ?_); refine goesL_ (some 9) rfl rfl Try.func16 z24_4 rfl #[.slice A0 l0.length c0] rfl z24_1 ?_; (with_reducible refine (hucksterlaw05_Light.calls k _ _ l0 false _ ?side1 ?side2 A2.out).mono ?_); (case side1 => exact z24_20); (case side2 => exact HC0.out); rintro e w' ⟨rfl, ⟨nd, rfl⟩⟩; refine ⟨_, rfl, ?_⟩) | ((with_reducible refine gate_callee (f := 12) rfl ?_); refine goesL_ (some 11) rfl rfl Try.func12 z24_4 rfl #[] rfl z24_1 ?_; (with_reducible refine (hucksterlaw05_awake.calls k  t519 _ A48.out).mono ?_); rintro e w49 ⟨rfl, hb⟩; refine ⟨_, rfl, ?_⟩; have n0_ := Aside0.mk (below_step z24_2 hb); clear HB; have HB := n0_; clear n0_; (try clear hb); (try clear hb2); (try clear hk); (try clear hi)))
  go_ret
  exact ⟨by first | rfl | (simp [errW_none, errW_some] <;> rfl) | (simp [*, errW_none, errW_some] <;> rfl), by repeat (first | (with_reducible first | exact HB.out | apply below_alloc | apply pw_below_drewN | apply below_drew1) | exact HB.out)⟩
end Go.Proofs.Ytgocnchjpecafaa.PEv
