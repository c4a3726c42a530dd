-- Written by a program of this session (a patched printer) out of the translation. Not trusted: Lean checks it.
import Derived.Test.YtgobbmhkmnaegaaPWirex0
import Derived.Test.YtgobbmhkmnaegaaPWirex1
import Derived.Test.YtgobbmhkmnaegaaPWirex5
import Derived.Test.YtgobbmhkmnaegaaPWirex10
import Derived.Test.YtgobbmhkmnaegaaPWirex12
namespace Go.Proofs.Ytgobbmhkmnaegaa.PWire
open Go.RowKit Go.Proofs.YtgobbmhkmnaegaaW.PrintWords Go.Proofs.YtgobbmhkmnaegaaW.PrintLast Go.Proofs.YtgobbmhkmnaegaaW.PrintMore
attribute [local go_sem] max2_int min2_int max_two min_two max_three min_three max_four min_four   -- for this text's walks alone
set_option linter.unusedVariables false
set_option linter.unusedSimpArgs false

/-! ### hucksterref02_GetRecord: function 29 -/
mutual
def hucksterref02_GetRecord.j0 : Nat → List Int → Bool → Option (Int × List Int × Int × Int)
  | 0, _, _ => none
  | k + 1, x0, x22 => if x22 = true then (some (0, ([] : List Int), 0, 2)) else (if 1 ≤ (x0.length : Int) then ((hucksterref02_within.f k (x0.drop 1)).bind fun t460 => (if t460 = true then (some (0, ([] : List Int), 0, 3)) else ((hucksterref02_GetNum.f k (x0.drop 1)).bind fun bt462 => (if bt462.2 = 0 then (hucksterref02_GetRecord.j1 k x0 bt462.1 bt462.2 true) else (hucksterref02_GetRecord.j1 k x0 bt462.1 bt462.2 (decide (bt462.1 > 65536))))))) else (none))
def hucksterref02_GetRecord.j1 : Nat → List Int → Int → Int → Bool → Option (Int × List Int × Int × Int)
  | 0, _, _, _, _ => none
  | k + 1, x0, x6, x7, x37 => if x37 = true then (some (0, ([] : List Int), 0, 2)) else (if (x0.length : Int) < (wrap64 ((wrap64 ((wrap64 (1 + x7)) + (wrap64 (x6)))) + 4)) then (some (0, ([] : List Int), 0, 3)) else ((some (([] : List Int) : List Int)).bind fun y464 => (if 0 ≤ (wrap64 (1 + x7)) then (if (wrap64 (1 + x7)) ≤ (wrap64 ((wrap64 ((wrap64 ((wrap64 (1 + x7)) + (wrap64 (x6)))) + 4)) - 4)) then (if (wrap64 ((wrap64 ((wrap64 ((wrap64 (1 + x7)) + (wrap64 (x6)))) + 4)) - 4)) ≤ (x0.length : Int) then (if y464.length + ((x0.take ((wrap64 ((wrap64 ((wrap64 ((wrap64 (1 + x7)) + (wrap64 (x6)))) + 4)) - 4)) : Int).toNat).drop ((wrap64 (1 + x7)) : Int).toNat).length < 140737488355328 then ((some (y464 ++ ((x0.take ((wrap64 ((wrap64 ((wrap64 ((wrap64 (1 + x7)) + (wrap64 (x6)))) + 4)) - 4)) : Int).toNat).drop ((wrap64 (1 + x7)) : Int).toNat) : List Int)).bind fun y468 => (if 0 < (x0.length : Int) then ((hucksterref02_Record.f k (wrap64 (rd x0 0)) y468).bind fun t472 => (if 0 ≤ (wrap64 ((wrap64 ((wrap64 (1 + x7)) + (wrap64 (x6)))) + 4)) then (if (wrap64 ((wrap64 ((wrap64 (1 + x7)) + (wrap64 (x6)))) + 4)) ≤ (x0.length : Int) then ((hucksterref02_Bytes.f k t472 (x0.take ((wrap64 ((wrap64 ((wrap64 (1 + x7)) + (wrap64 (x6)))) + 4)) : Int).toNat)).bind fun t476 => (if t476 = true then (some (wrap64 (rd x0 0), y468, wrap64 ((wrap64 ((wrap64 (1 + x7)) + (wrap64 (x6)))) + 4), 0)) else (some (0, ([] : List Int), 0, 2)))) else (none)) else (none))) else (none))) else (none)) else (none)) else (none)) else (none))))
end
def hucksterref02_GetRecord.f (k : Nat) (l0 : List Int) : Option (Int × List Int × Int × Int) := if (l0.length : Int) = 0 then (some (0, ([] : List Int), 0, 3)) else (if 0 < (l0.length : Int) then (if (rd l0 0) < 1 then (hucksterref02_GetRecord.j0 k l0 true) else (hucksterref02_GetRecord.j0 k l0 (decide ((rd l0 0) > 200)))) else (none))
theorem hucksterref02_GetRecord.mono_l : ∀ k, (∀ y0 y1, LeO (hucksterref02_GetRecord.j0 k y0 y1) (hucksterref02_GetRecord.j0 (k + 1) y0 y1)) ∧ (∀ y0 y1 y2 y3, LeO (hucksterref02_GetRecord.j1 k y0 y1 y2 y3) (hucksterref02_GetRecord.j1 (k + 1) y0 y1 y2 y3))
  | 0 => ⟨fun _ _ r h => by simp [hucksterref02_GetRecord.j0] at h, fun _ _ _ _ r h => by simp [hucksterref02_GetRecord.j1] at h⟩
  | k + 1 => by
    obtain ⟨ih0, ih1⟩ := hucksterref02_GetRecord.mono_l k
    refine ⟨?_, ?_⟩
    · intro y0 y1
      unfold hucksterref02_GetRecord.j0
      repeat' first
      | (with_reducible exact ih0 _ _)
      | (with_reducible exact ih1 _ _ _ _)
      | (with_reducible exact hucksterref02_Bytes.mono _ _ _)
      | (with_reducible exact hucksterref02_GetNum.mono _ _)
      | (with_reducible exact hucksterref02_Record.mono _ _ _)
      | (with_reducible exact hucksterref02_within.mono _ _)
      | (with_reducible exact LeO.refl _)
      | (with_reducible exact LeO.none _)
      | (with_reducible refine LeO.ite ?_ ?_)
      | (with_reducible refine LeO.bind ?_ (fun _ => ?_))
      | exact ih0 _ _
      | exact ih1 _ _ _ _
      | exact hucksterref02_Bytes.mono _ _ _
      | exact hucksterref02_GetNum.mono _ _
      | exact hucksterref02_Record.mono _ _ _
      | exact hucksterref02_within.mono _ _
      | exact LeO.none _
      | refine LeO.ite ?_ ?_
      | refine LeO.bind ?_ (fun _ => ?_)
    · intro y0 y1 y2 y3
      unfold hucksterref02_GetRecord.j1
      repeat' first
      | (with_reducible exact ih0 _ _)
      | (with_reducible exact ih1 _ _ _ _)
      | (with_reducible exact hucksterref02_Bytes.mono _ _ _)
      | (with_reducible exact hucksterref02_GetNum.mono _ _)
      | (with_reducible exact hucksterref02_Record.mono _ _ _)
      | (with_reducible exact hucksterref02_within.mono _ _)
      | (with_reducible exact LeO.refl _)
      | (with_reducible exact LeO.none _)
      | (with_reducible refine LeO.ite ?_ ?_)
      | (with_reducible refine LeO.bind ?_ (fun _ => ?_))
      | exact ih0 _ _
      | exact ih1 _ _ _ _
      | exact hucksterref02_Bytes.mono _ _ _
      | exact hucksterref02_GetNum.mono _ _
      | exact hucksterref02_Record.mono _ _ _
      | exact hucksterref02_within.mono _ _
      | exact LeO.none _
      | refine LeO.ite ?_ ?_
      | refine LeO.bind ?_ (fun _ => ?_)
theorem hucksterref02_GetRecord.mono : ∀ a0 k, LeO (hucksterref02_GetRecord.f k a0) (hucksterref02_GetRecord.f (k + 1) a0) := by
  intro a0 k
  obtain ⟨ih0, ih1⟩ := hucksterref02_GetRecord.mono_l k
  unfold hucksterref02_GetRecord.f
  repeat' first
      | (with_reducible exact ih0 _ _)
      | (with_reducible exact ih1 _ _ _ _)
      | (with_reducible exact hucksterref02_Bytes.mono _ _ _)
      | (with_reducible exact hucksterref02_GetNum.mono _ _)
      | (with_reducible exact hucksterref02_Record.mono _ _ _)
      | (with_reducible exact hucksterref02_within.mono _ _)
      | (with_reducible exact LeO.refl _)
      | (with_reducible exact LeO.none _)
      | (with_reducible refine LeO.ite ?_ ?_)
      | (with_reducible refine LeO.bind ?_ (fun _ => ?_))
      | exact ih0 _ _
      | exact ih1 _ _ _ _
      | exact hucksterref02_Bytes.mono _ _ _
      | exact hucksterref02_GetNum.mono _ _
      | exact hucksterref02_Record.mono _ _ _
      | exact hucksterref02_within.mono _ _
      | exact LeO.none _
      | refine LeO.ite ?_ ?_
      | refine LeO.bind ?_ (fun _ => ?_)
def hucksterref02_GetRecord.T14 : Bool × List (List Nat × List Nat) := (true, [([], []), ([0], [0]), ([1], [1]), ([2], [2]), ([], []), ([3, 4], [3, 4]), ([], []), ([], []), ([6, 7], [6, 7]), ([5, 8, 5], [5, 8]), ([9], [9])])
def hucksterref02_GetRecord.B14 : List Nat := [0, 1, 3, 7, 0, 31, 0, 0, 192, 511, 1023]
theorem hucksterref02_GetRecord.tab14 : rtab .any (opsOf Try.f29 14) = hucksterref02_GetRecord.T14 := by kernel_rfl
theorem hucksterref02_GetRecord.bits14 : waitsOk hucksterref02_GetRecord.T14.2 hucksterref02_GetRecord.B14 = true := by kernel_rfl
set_option maxHeartbeats 8000000 in
set_option maxRecDepth 100000 in
theorem hucksterref02_GetRecord.calls (k : Nat) (A0 : Option Addr) (c0 : Nat) (l0 : List Int) (r1 : Int) (r2 : List Int) (r3 : Int) (r4 : Int) (w : World) (hr0 : Kd.C (Kd.int .u8) w A0 l0.length l0) (hc0 : l0.length ≤ c0) (h : hucksterref02_GetRecord.f k l0 = some (r1, r2, r3, r4)) :
    Calls Try.prog 29 #[.slice A0 l0.length c0] w fun e w' => ∃ v1_ : Value, e = .returned (.tuple #[.int .i64 r1, v1_, .int .i64 r3, .int .i64 r4]) ∧ Kd.R (Kd.int .u8) 5 w' w.heap.size (fun _ => True) v1_ r2 ∧ Below w.heap.size w w' := by
  have HR0 := Aside0.mk hr0
  have HC0 := Aside0.mk hc0
  clear hr0 hc0
  have HB := Aside0.mk (Below.refl w.heap.size w)
  have H : (if (l0.length : Int) = 0 then (some (0, ([] : List Int), 0, 3)) else (if 0 < (l0.length : Int) then (if (rd l0 0) < 1 then (hucksterref02_GetRecord.j0 k l0 true) else (hucksterref02_GetRecord.j0 k l0 (decide ((rd l0 0) > 200)))) else (none))) = some (r1, r2, r3, r4) := h
  clear h
  by_cases c2 : (l0.length : Int) = 0
  · rw [if_pos c2] at H
    have c2b0 : ((l0.length : Int) == 0) = true := beq_iff_eq.mpr c2
    have c2b1 : ((l0.length : Int) != 0) = false := bne_eq_false_iff_eq.mpr c2
    clear c2
    simp only [Option.some.injEq, Prod.mk.injEq] at H
    obtain ⟨rfl, rfl, rfl, rfl⟩ := H
    go_enter Try.func29, Try.ntmps29
    go_wp2
    refine bodyPost_ret (results_list (rs := [.tmp 2, .tmp 3, .tmp 4, .tmp 5]) rfl (by simp) (.tmp (.tmp (.tmp (.tmp .nil))))) rfl ?_
    exact ⟨_, by first | rfl | (simp [errW_none, errW_some] <;> rfl) | (simp [*, errW_none, errW_some] <;> rfl), by first | exact Kd.R_nil _ _ _ _ _ | exact Kd.N_nil _ _ _ _ _ | exact Kd.V_nil _ _ _ _ _ | exact Kd.Q_nil _ _ _ _ _ | exact Kd.S_nil _ _ _ _ _, by repeat (first | (with_reducible first | exact HB.out | apply below_alloc | apply pw_below_drewN | apply below_drew1) | exact HB.out)⟩
  · rw [if_neg c2] at H
    have c2b0 : ((l0.length : Int) == 0) = false := beq_eq_false_iff_ne.mpr c2
    have c2b1 : ((l0.length : Int) != 0) = true := bne_iff_ne.mpr c2
    have c2b2 : ¬ (l0 = []) := fun h_ => c2 (by rw [h_]; rfl)
    have HC3 := Aside0.mk H
    clear H
    go_enter Try.func29, Try.ntmps29
    go_upto_region 3 with (fail)
    go_cut [22] (fun v22 wc => ∃ (kq : Nat) (x22_2 : Bool), v22 = .bool x22_2 ∧ Aside0 (hucksterref02_GetRecord.j0 kq l0 x22_2 = some (r1, r2, r3, r4)) ∧ Aside0 (kq ≤ k) ∧ Aside0 (Below w.heap.size w wc))
    case first =>
      have H := HC3.out
      clear HC3
      by_cases c4 : 0 < (l0.length : Int)
      · rw [if_pos c4] at H
        have c4b0 : decide (0 < (l0.length : Int)) = true := decide_eq_true c4
        have c4b1 : decide (0 < l0.length) = true := decide_eq_true (by omega)
        clear c4
        (first | rw [c4b0] | (simp only [i64_w, i32_w]; rw [c4b0]) | skip)
        by_cases c5 : (rd l0 0) < 1
        · rw [if_pos c5] at H
          have c5b0 : decide ((rd l0 0) < 1) = true := decide_eq_true c5
          clear c5
          have H' := Aside0.mk H
          clear H
          have p457 : 0 ≤ (0 : Int) := (by omega)
          have q457 : 0 < (l0.length : Int) := of_decide_eq_true (by first | (with_reducible assumption) | assumption)
          obtain ⟨ad457, e457, hx457_0⟩ := Kd.at_int HR0.out 0 p457 q457
          cases e457
          have qi457 : (0 < l0.length) = True := eq_true (by omega)
          (try rw [show ((0 : Int)).toNat = 0 from rfl] at hx457_0)
          (try rw [Addr.add_zero'] at hx457_0)
          replace hx457_0 := (HB.out.cell (World.block_lt_of_cell? w _ hx457_0)).trans hx457_0
          replace p457 := eq_true p457
          replace q457 := eq_true q457
          go_wp2
          go_meet
          case rel => exact ⟨_, (true), (by first | rfl | (simp; done) | (simp [*]; done)), H', ⟨by first | omega | exact Nat.le_refl _⟩, ⟨by repeat (first | (with_reducible first | exact HB.out | apply below_alloc | apply pw_below_drewN | apply below_drew1) | exact HB.out)⟩⟩
        · rw [if_neg c5] at H
          have c5b0 : decide ((rd l0 0) < 1) = false := decide_eq_false c5
          clear c5
          have H' := Aside0.mk H
          clear H
          have p457 : 0 ≤ (0 : Int) := (by omega)
          have q457 : 0 < (l0.length : Int) := of_decide_eq_true (by first | (with_reducible assumption) | assumption)
          obtain ⟨ad457, e457, hx457_0⟩ := Kd.at_int HR0.out 0 p457 q457
          cases e457
          have qi457 : (0 < l0.length) = True := eq_true (by omega)
          (try rw [show ((0 : Int)).toNat = 0 from rfl] at hx457_0)
          (try rw [Addr.add_zero'] at hx457_0)
          replace hx457_0 := (HB.out.cell (World.block_lt_of_cell? w _ hx457_0)).trans hx457_0
          replace p457 := eq_true p457
          replace q457 := eq_true q457
          have p458 : 0 ≤ (0 : Int) := (by omega)
          have q458 : 0 < (l0.length : Int) := of_decide_eq_true (by first | (with_reducible assumption) | assumption)
          obtain ⟨ad458, e458, hx458_0⟩ := Kd.at_int HR0.out 0 p458 q458
          obtain rfl : ad457 = ad458 := (by injection e458)
          have qi458 : (0 < l0.length) = True := eq_true (by omega)
          (try rw [show ((0 : Int)).toNat = 0 from rfl] at hx458_0)
          (try rw [Addr.add_zero'] at hx458_0)
          replace hx458_0 := (HB.out.cell (World.block_lt_of_cell? w _ hx458_0)).trans hx458_0
          replace p458 := eq_true p458
          replace q458 := eq_true q458
          go_wp2
          go_meet
          case rel => exact ⟨_, (decide ((rd l0 0) > 200)), (by first | rfl | (simp; done) | (simp [*]; done)), H', ⟨by first | omega | exact Nat.le_refl _⟩, ⟨by repeat (first | (with_reducible first | exact HB.out | apply below_alloc | apply pw_below_drewN | apply below_drew1) | exact HB.out)⟩⟩
      · rw [if_neg c4] at H
        exact absurd H (by simp)
    case rest =>
      clear HC3
      try clear c2
      try clear c2b0
      try clear c2b1
      try clear c2b2
      try clear p2
      try clear c4
      try clear c4b0
      try clear c4b1
      try clear p4
      try clear q4
      try clear hx4
      try clear qi4
      try clear c5
      try clear c5b0
      try clear hx457_0
      try clear hx458_0
      try clear p457
      try clear p458
      try clear q457
      try clear q458
      obtain ⟨kq, x22_2, rfl, HA, HJ2, HB⟩ := hcut
      cases kq with
      | zero => exact absurd HA.out (by simp [hucksterref02_GetRecord.j0])
      | succ kj2 =>
        have H := HA.out
        clear HA
        simp only [hucksterref02_GetRecord.j0] at H
        by_cases c6 : x22_2 = true
        · subst c6
          have H1 : (some (0, ([] : List Int), 0, 2)) = some (r1, r2, r3, r4) := by rw [if_pos rfl] at H; exact H
          clear H
          have H := H1
          clear H1
          simp only [Option.some.injEq, Prod.mk.injEq] at H
          obtain ⟨rfl, rfl, rfl, rfl⟩ := H
          go_wp2
          refine bodyPost_ret (results_list (rs := [.tmp 2, .tmp 3, .tmp 4, .tmp 5]) rfl (by simp) (.tmp (.tmp (.tmp (.tmp .nil))))) rfl ?_
          exact ⟨_, by first | rfl | (simp [errW_none, errW_some] <;> rfl) | (simp [*, errW_none, errW_some] <;> rfl), by first | exact Kd.R_nil _ _ _ _ _ | exact Kd.N_nil _ _ _ _ _ | exact Kd.V_nil _ _ _ _ _ | exact Kd.Q_nil _ _ _ _ _ | exact Kd.S_nil _ _ _ _ _, by repeat (first | (with_reducible first | exact HB.out | apply below_alloc | apply pw_below_drewN | apply below_drew1) | exact HB.out)⟩
        · replace c6 := Bool.eq_false_iff.mpr c6
          subst c6
          have H1 : (if 1 ≤ (l0.length : Int) then ((hucksterref02_within.f kj2 (l0.drop 1)).bind fun t460 => (if t460 = true then (some (0, ([] : List Int), 0, 3)) else ((hucksterref02_GetNum.f kj2 (l0.drop 1)).bind fun bt462 => (if bt462.2 = 0 then (hucksterref02_GetRecord.j1 kj2 l0 bt462.1 bt462.2 true) else (hucksterref02_GetRecord.j1 kj2 l0 bt462.1 bt462.2 (decide (bt462.1 > 65536))))))) else (none)) = some (r1, r2, r3, r4) := by rw [if_neg (show ¬ (false = true) by decide)] at H; exact H
          clear H
          have H := H1
          clear H1
          by_cases c7 : 1 ≤ (l0.length : Int)
          · rw [if_pos c7] at H
            have c7b0 := eq_true c7
            have c7b1 : decide (1 ≤ (l0.length : Int)) = true := decide_eq_true c7
            clear c7
            replace H := Option.bind_eq_some_iff.mp H
            obtain ⟨t460, A80, H⟩ := H
            replace H : (if t460 = true then (some (0, ([] : List Int), 0, 3)) else ((hucksterref02_GetNum.f kj2 (l0.drop 1)).bind fun bt462 => (if bt462.2 = 0 then (hucksterref02_GetRecord.j1 kj2 l0 bt462.1 bt462.2 true) else (hucksterref02_GetRecord.j1 kj2 l0 bt462.1 bt462.2 (decide (bt462.1 > 65536)))))) = some (r1, r2, r3, r4) := H
            have A8 := Aside0.mk A80
            clear A80
            by_cases c9 : t460 = true
            · subst c9
              have H1 : (some (0, ([] : List Int), 0, 3)) = some (r1, r2, r3, r4) := by rw [if_pos rfl] at H; exact H
              clear H
              have H := H1
              clear H1
              simp only [Option.some.injEq, Prod.mk.injEq] at H
              obtain ⟨rfl, rfl, rfl, rfl⟩ := H
              obtain ⟨i010, hi010, _, hsz10, _⟩ := info_parts info5
              obtain ⟨A10, hcut10, hA10, hC10⟩ := print_drop_of (P := Try.prog) (Value.int .u8) 0 27 5 .i64 Try.underlying27 hi010 hsz10 A0 c0 l0 1 (by omega) (of_decide_eq_true (by first | (with_reducible assumption) | assumption)) HC0.out
              have HR459 := Aside0.mk (Kd.C_of_reads (h1 := fun _ => rfl) (hA10 _ (Kd.reads_of_C HR0.out)))
              have HC459 := Aside0.mk hC10
              clear hA10 hC10 hi010 hsz10
              go_wp2_with (first | ((with_reducible refine gate_callee (f := 36) rfl ?_); refine goesL_ (some 25) rfl rfl Try.func36 (by kernel_rfl) rfl #[.slice A10 (l0.drop 1).length (c0 - 1)] rfl (by (try simp only [List.map_toArray, List.map_cons, List.map_nil]); first | done | (rw [show (l0.drop 1).length = (l0.length - 1) from List.length_drop] <;> rfl) | rfl | (simp only [List.length_drop, List.length_take]; rfl)) ?_; (with_reducible refine (hucksterref02_within.calls kj2 _ _ (l0.drop 1) true _ ?side1 ?side2 A8.out).mono ?_); (case side1 => repeat (first | exact (Kd.C_below HR459.out HB.out) | (with_reducible refine Kd.C_alloc ?_ _) | (with_reducible refine Kd.C_drewN ?_ _) | (with_reducible refine Kd.C_drew ?_))); (case side2 => exact HC459.out); rintro e w11 ⟨rfl, hb⟩; refine ⟨_, rfl, ?_⟩; have n0_ := Aside0.mk (below_step (by repeat (first | (with_reducible first | exact HB.out | apply below_alloc | apply pw_below_drewN | apply below_drew1) | exact HB.out)) hb); clear HB; have HB := n0_; clear n0_; (try clear hb); (try clear hb2); (try clear hk); (try clear hi)))
              refine bodyPost_ret (results_list (rs := [.tmp 2, .tmp 3, .tmp 4, .tmp 5]) rfl (by simp) (.tmp (.tmp (.tmp (.tmp .nil))))) rfl ?_
              exact ⟨_, by first | rfl | (simp [errW_none, errW_some] <;> rfl) | (simp [*, errW_none, errW_some] <;> rfl), by first | exact Kd.R_nil _ _ _ _ _ | exact Kd.N_nil _ _ _ _ _ | exact Kd.V_nil _ _ _ _ _ | exact Kd.Q_nil _ _ _ _ _ | exact Kd.S_nil _ _ _ _ _, by repeat (first | (with_reducible first | exact HB.out | apply below_alloc | apply pw_below_drewN | apply below_drew1) | exact HB.out)⟩
            · replace c9 := Bool.eq_false_iff.mpr c9
              subst c9
              have H1 : ((hucksterref02_GetNum.f kj2 (l0.drop 1)).bind fun bt462 => (if bt462.2 = 0 then (hucksterref02_GetRecord.j1 kj2 l0 bt462.1 bt462.2 true) else (hucksterref02_GetRecord.j1 kj2 l0 bt462.1 bt462.2 (decide (bt462.1 > 65536))))) = some (r1, r2, r3, r4) := by rw [if_neg (show ¬ (false = true) by decide)] at H; exact H
              clear H
              have H := H1
              clear H1
              have c12b0 := eq_true (of_decide_eq_true (by first | (with_reducible assumption) | assumption) : 1 ≤ (l0.length : Int))
              replace H := Option.bind_eq_some_iff.mp H
              obtain ⟨⟨t462, t463⟩, A130, H⟩ := H
              replace H : (if t463 = 0 then (hucksterref02_GetRecord.j1 kj2 l0 t462 t463 true) else (hucksterref02_GetRecord.j1 kj2 l0 t462 t463 (decide (t462 > 65536)))) = some (r1, r2, r3, r4) := H
              have A13 := Aside0.mk A130
              clear A130
              have HC14 := Aside0.mk H
              clear H
              obtain ⟨i015, hi015, _, hsz15, _⟩ := info_parts info5
              obtain ⟨A15, hcut15, hA15, hC15⟩ := print_drop_of (P := Try.prog) (Value.int .u8) 0 27 5 .i64 Try.underlying27 hi015 hsz15 A0 c0 l0 1 (by omega) (of_decide_eq_true (by first | (with_reducible assumption) | assumption)) HC0.out
              have HR459 := Aside0.mk (Kd.C_of_reads (h1 := fun _ => rfl) (hA15 _ (Kd.reads_of_C HR0.out)))
              have HC459 := Aside0.mk hC15
              clear hA15 hC15 hi015 hsz15
              go_upto_region 8 with (first | ((with_reducible refine gate_callee (f := 36) rfl ?_); refine goesL_ (some 25) rfl rfl Try.func36 (by kernel_rfl) rfl #[.slice A15 (l0.drop 1).length (c0 - 1)] rfl (by (try simp only [List.map_toArray, List.map_cons, List.map_nil]); first | done | (rw [show (l0.drop 1).length = (l0.length - 1) from List.length_drop] <;> rfl) | rfl | (simp only [List.length_drop, List.length_take]; rfl)) ?_; (with_reducible refine (hucksterref02_within.calls kj2 _ _ (l0.drop 1) false _ ?side1 ?side2 A8.out).mono ?_); (case side1 => repeat (first | exact (Kd.C_below HR459.out HB.out) | (with_reducible refine Kd.C_alloc ?_ _) | (with_reducible refine Kd.C_drewN ?_ _) | (with_reducible refine Kd.C_drew ?_))); (case side2 => exact HC459.out); rintro e w16 ⟨rfl, hb⟩; refine ⟨_, rfl, ?_⟩; have n0_ := Aside0.mk (below_step (by repeat (first | (with_reducible first | exact HB.out | apply below_alloc | apply pw_below_drewN | apply below_drew1) | exact HB.out)) hb); clear HB; have HB := n0_; clear n0_; (try clear hb); (try clear hb2); (try clear hk); (try clear hi); obtain ⟨i017, hi017, _, hsz17, _⟩ := info_parts info5; (try clear hcut15); obtain ⟨A17, hcut17, hA17, hC17⟩ := print_drop_of (P := Try.prog) (Value.int .u8) 0 27 5 .i64 Try.underlying27 hi017 hsz17 A0 c0 l0 1 (by omega) (of_decide_eq_true (by first | (with_reducible assumption) | assumption)) HC0.out; have HR461 := Aside0.mk (Kd.C_of_reads (h1 := fun _ => rfl) (hA17 _ (Kd.reads_of_C HR0.out))); have HC461 := Aside0.mk hC17; clear hA17 hC17 hi017 hsz17) | ((with_reducible refine gate_callee (f := 19) rfl ?_); refine goesL_ (some 29) rfl rfl Try.func19 (by kernel_rfl) rfl #[.slice A17 (l0.drop 1).length (c0 - 1)] rfl (by (try simp only [List.map_toArray, List.map_cons, List.map_nil]); first | done | (rw [show (l0.drop 1).length = (l0.length - 1) from List.length_drop] <;> rfl) | rfl | (simp only [List.length_drop, List.length_take]; rfl)) ?_; (with_reducible refine (hucksterref02_GetNum.calls kj2 _ _ (l0.drop 1) t462 t463 _ ?side1 ?side2 A13.out).mono ?_); (case side1 => repeat (first | exact (Kd.C_below HR461.out HB.out) | (with_reducible refine Kd.C_alloc ?_ _) | (with_reducible refine Kd.C_drewN ?_ _) | (with_reducible refine Kd.C_drew ?_))); (case side2 => exact HC461.out); rintro e w18 ⟨rfl, hb⟩; refine ⟨_, rfl, ?_⟩; have n0_ := Aside0.mk (below_step (by repeat (first | (with_reducible first | exact HB.out | apply below_alloc | apply pw_below_drewN | apply below_drew1) | exact HB.out)) hb); clear HB; have HB := n0_; clear n0_; (try clear hb); (try clear hb2); (try clear hk); (try clear hi)))
              (try simp only [Act.put, List.setIfInBounds_toArray, List.set_cons_zero, List.set_cons_succ])
              go_cut [37] (fun v37 wc => ∃ (kq : Nat) (x37_13 : Bool), v37 = .bool x37_13 ∧ Aside0 (hucksterref02_GetRecord.j1 kq l0 t462 t463 x37_13 = some (r1, r2, r3, r4)) ∧ Aside0 (kq ≤ kj2) ∧ Aside0 (Below w.heap.size w wc))
              case first =>
                have H := HC14.out
                clear HC14
                by_cases c19 : t463 = 0
                · rw [if_pos c19] at H
                  have c19b0 : (t463 == 0) = true := beq_iff_eq.mpr c19
                  have c19b1 : (t463 != 0) = false := bne_eq_false_iff_eq.mpr c19
                  clear c19
                  (first | rw [c19b0] | (simp only [i64_w, i32_w]; rw [c19b0]) | skip)
                  have H' := Aside0.mk H
                  clear H
                  go_wp2
                  go_meet
                  case rel => exact ⟨_, (true), (by first | rfl | (simp; done) | (simp [*]; done)), H', ⟨by have := HJ2.out; first | omega | exact Nat.le_refl _⟩, ⟨by repeat (first | (with_reducible first | exact HB.out | apply below_alloc | apply pw_below_drewN | apply below_drew1) | exact HB.out)⟩⟩
                · rw [if_neg c19] at H
                  have c19b0 : (t463 == 0) = false := beq_eq_false_iff_ne.mpr c19
                  have c19b1 : (t463 != 0) = true := bne_iff_ne.mpr c19
                  (first | rw [c19b0] | (simp only [i64_w, i32_w]; rw [c19b0]) | skip)
                  have H' := Aside0.mk H
                  clear H
                  go_wp2
                  go_meet
                  case rel => exact ⟨_, (decide (t462 > 65536)), (by first | rfl | (simp; done) | (simp [*]; done)), H', ⟨by have := HJ2.out; first | omega | exact Nat.le_refl _⟩, ⟨by repeat (first | (with_reducible first | exact HB.out | apply below_alloc | apply pw_below_drewN | apply below_drew1) | exact HB.out)⟩⟩
              case rest =>
                clear HC14
                try clear c1
                try clear c2
                try clear c2b0
                try clear c2b1
                try clear c2b2
                try clear p2
                try clear c3
                try clear c4
                try clear c4b0
                try clear c4b1
                try clear p4
                try clear q4
                try clear hx4
                try clear qi4
                try clear c5
                try clear c5b0
                try clear c6
                try clear c7
                try clear c7b0
                try clear c7b1
                try clear c9
                try clear c12
                try clear c12b0
                try clear c19
                try clear c19b0
                try clear c19b1
                try clear hx457_0
                try clear hx458_0
                try clear p2
                try clear p4
                try clear p457
                try clear p458
                try clear q4
                try clear q457
                try clear q458
                obtain ⟨kq, x37_13, rfl, HA, HJ13, HB⟩ := hcut
                cases kq with
                | zero => exact absurd HA.out (by simp [hucksterref02_GetRecord.j1])
                | succ kj13 =>
                  have H := HA.out
                  clear HA
                  simp only [hucksterref02_GetRecord.j1] at H
                  by_cases c20 : x37_13 = true
                  · subst c20
                    have H1 : (some (0, ([] : List Int), 0, 2)) = some (r1, r2, r3, r4) := by rw [if_pos rfl] at H; exact H
                    clear H
                    have H := H1
                    clear H1
                    simp only [Option.some.injEq, Prod.mk.injEq] at H
                    obtain ⟨rfl, rfl, rfl, rfl⟩ := H
                    go_wp2
                    refine bodyPost_ret (results_list (rs := [.tmp 2, .tmp 3, .tmp 4, .tmp 5]) rfl (by simp) (.tmp (.tmp (.tmp (.tmp .nil))))) rfl ?_
                    exact ⟨_, by first | rfl | (simp [errW_none, errW_some] <;> rfl) | (simp [*, errW_none, errW_some] <;> rfl), by first | exact Kd.R_nil _ _ _ _ _ | exact Kd.N_nil _ _ _ _ _ | exact Kd.V_nil _ _ _ _ _ | exact Kd.Q_nil _ _ _ _ _ | exact Kd.S_nil _ _ _ _ _, by repeat (first | (with_reducible first | exact HB.out | apply below_alloc | apply pw_below_drewN | apply below_drew1) | exact HB.out)⟩
                  · replace c20 := Bool.eq_false_iff.mpr c20
                    subst c20
                    have H1 : (if (l0.length : Int) < (wrap64 ((wrap64 ((wrap64 (1 + t463)) + (wrap64 (t462)))) + 4)) then (some (0, ([] : List Int), 0, 3)) else ((some (([] : List Int) : List Int)).bind fun y464 => (if 0 ≤ (wrap64 (1 + t463)) then (if (wrap64 (1 + t463)) ≤ (wrap64 ((wrap64 ((wrap64 ((wrap64 (1 + t463)) + (wrap64 (t462)))) + 4)) - 4)) then (if (wrap64 ((wrap64 ((wrap64 ((wrap64 (1 + t463)) + (wrap64 (t462)))) + 4)) - 4)) ≤ (l0.length : Int) then (if y464.length + ((l0.take ((wrap64 ((wrap64 ((wrap64 ((wrap64 (1 + t463)) + (wrap64 (t462)))) + 4)) - 4)) : Int).toNat).drop ((wrap64 (1 + t463)) : Int).toNat).length < 140737488355328 then ((some (y464 ++ ((l0.take ((wrap64 ((wrap64 ((wrap64 ((wrap64 (1 + t463)) + (wrap64 (t462)))) + 4)) - 4)) : Int).toNat).drop ((wrap64 (1 + t463)) : Int).toNat) : List Int)).bind fun y468 => (if 0 < (l0.length : Int) then ((hucksterref02_Record.f kj13 (wrap64 (rd l0 0)) y468).bind fun t472 => (if 0 ≤ (wrap64 ((wrap64 ((wrap64 (1 + t463)) + (wrap64 (t462)))) + 4)) then (if (wrap64 ((wrap64 ((wrap64 (1 + t463)) + (wrap64 (t462)))) + 4)) ≤ (l0.length : Int) then ((hucksterref02_Bytes.f kj13 t472 (l0.take ((wrap64 ((wrap64 ((wrap64 (1 + t463)) + (wrap64 (t462)))) + 4)) : Int).toNat)).bind fun t476 => (if t476 = true then (some (wrap64 (rd l0 0), y468, wrap64 ((wrap64 ((wrap64 (1 + t463)) + (wrap64 (t462)))) + 4), 0)) else (some (0, ([] : List Int), 0, 2)))) else (none)) else (none))) else (none))) else (none)) else (none)) else (none)) else (none)))) = some (r1, r2, r3, r4) := by rw [if_neg (show ¬ (false = true) by decide)] at H; exact H
                    clear H
                    have H := H1
                    clear H1
                    by_cases c21 : (l0.length : Int) < (wrap64 ((wrap64 ((wrap64 (1 + t463)) + (wrap64 (t462)))) + 4))
                    · rw [if_pos c21] at H
                      have c21b0 : decide ((l0.length : Int) < (wrap64 ((wrap64 ((wrap64 (1 + t463)) + (wrap64 (t462)))) + 4))) = true := decide_eq_true c21
                      clear c21
                      simp only [Option.some.injEq, Prod.mk.injEq] at H
                      obtain ⟨rfl, rfl, rfl, rfl⟩ := H
                      go_wp2
                      refine bodyPost_ret (results_list (rs := [.tmp 2, .tmp 3, .tmp 4, .tmp 5]) rfl (by simp) (.tmp (.tmp (.tmp (.tmp .nil))))) rfl ?_
                      exact ⟨_, by first | rfl | (simp [errW_none, errW_some] <;> rfl) | (simp [*, errW_none, errW_some] <;> rfl), by first | exact Kd.R_nil _ _ _ _ _ | exact Kd.N_nil _ _ _ _ _ | exact Kd.V_nil _ _ _ _ _ | exact Kd.Q_nil _ _ _ _ _ | exact Kd.S_nil _ _ _ _ _, by repeat (first | (with_reducible first | exact HB.out | apply below_alloc | apply pw_below_drewN | apply below_drew1) | exact HB.out)⟩
                    · rw [if_neg c21] at H
                      have c21b0 : decide ((l0.length : Int) < (wrap64 ((wrap64 ((wrap64 (1 + t463)) + (wrap64 (t462)))) + 4))) = false := decide_eq_false c21
                      clear c21
                      obtain ⟨y464, hy464⟩ : ∃ y_ : List Int, y_ = (([] : List Int)) := ⟨_, rfl⟩
                      replace H : (if 0 ≤ (wrap64 (1 + t463)) then (if (wrap64 (1 + t463)) ≤ (wrap64 ((wrap64 ((wrap64 ((wrap64 (1 + t463)) + (wrap64 (t462)))) + 4)) - 4)) then (if (wrap64 ((wrap64 ((wrap64 ((wrap64 (1 + t463)) + (wrap64 (t462)))) + 4)) - 4)) ≤ (l0.length : Int) then (if y464.length + ((l0.take ((wrap64 ((wrap64 ((wrap64 ((wrap64 (1 + t463)) + (wrap64 (t462)))) + 4)) - 4)) : Int).toNat).drop ((wrap64 (1 + t463)) : Int).toNat).length < 140737488355328 then ((some (y464 ++ ((l0.take ((wrap64 ((wrap64 ((wrap64 ((wrap64 (1 + t463)) + (wrap64 (t462)))) + 4)) - 4)) : Int).toNat).drop ((wrap64 (1 + t463)) : Int).toNat) : List Int)).bind fun y468 => (if 0 < (l0.length : Int) then ((hucksterref02_Record.f kj13 (wrap64 (rd l0 0)) y468).bind fun t472 => (if 0 ≤ (wrap64 ((wrap64 ((wrap64 (1 + t463)) + (wrap64 (t462)))) + 4)) then (if (wrap64 ((wrap64 ((wrap64 (1 + t463)) + (wrap64 (t462)))) + 4)) ≤ (l0.length : Int) then ((hucksterref02_Bytes.f kj13 t472 (l0.take ((wrap64 ((wrap64 ((wrap64 (1 + t463)) + (wrap64 (t462)))) + 4)) : Int).toNat)).bind fun t476 => (if t476 = true then (some (wrap64 (rd l0 0), y468, wrap64 ((wrap64 ((wrap64 (1 + t463)) + (wrap64 (t462)))) + 4), 0)) else (some (0, ([] : List Int), 0, 2)))) else (none)) else (none))) else (none))) else (none)) else (none)) else (none)) else (none)) = some (r1, r2, r3, r4) := by first | (rw [hy464]; with_reducible exact H) | (have H2_ := (Option.bind_some _ _).symm.trans H; rw [hy464]; with_reducible exact H2_) | (have H2_ := (Option.bind_some _ _).symm.trans H; with_reducible exact H2_) | with_reducible exact H | (rw [hy464]; exact H) | exact H
                      have Ny464 := Aside0.mk hy464
                      clear hy464
                      obtain ⟨ji22, hji22⟩ : ∃ j_ : Int, (wrap64 (1 + t463)) = j_ := ⟨_, rfl⟩
                      replace H : (if 0 ≤ (ji22) then (if (ji22) ≤ (wrap64 ((wrap64 ((wrap64 ((ji22) + (wrap64 (t462)))) + 4)) - 4)) then (if (wrap64 ((wrap64 ((wrap64 ((ji22) + (wrap64 (t462)))) + 4)) - 4)) ≤ (l0.length : Int) then (if y464.length + ((l0.take ((wrap64 ((wrap64 ((wrap64 ((ji22) + (wrap64 (t462)))) + 4)) - 4)) : Int).toNat).drop ((ji22) : Int).toNat).length < 140737488355328 then ((some (y464 ++ ((l0.take ((wrap64 ((wrap64 ((wrap64 ((ji22) + (wrap64 (t462)))) + 4)) - 4)) : Int).toNat).drop ((ji22) : Int).toNat) : List Int)).bind fun y468 => (if 0 < (l0.length : Int) then ((hucksterref02_Record.f kj13 (wrap64 (rd l0 0)) y468).bind fun t472 => (if 0 ≤ (wrap64 ((wrap64 ((ji22) + (wrap64 (t462)))) + 4)) then (if (wrap64 ((wrap64 ((ji22) + (wrap64 (t462)))) + 4)) ≤ (l0.length : Int) then ((hucksterref02_Bytes.f kj13 t472 (l0.take ((wrap64 ((wrap64 ((ji22) + (wrap64 (t462)))) + 4)) : Int).toNat)).bind fun t476 => (if t476 = true then (some (wrap64 (rd l0 0), y468, wrap64 ((wrap64 ((ji22) + (wrap64 (t462)))) + 4), 0)) else (some (0, ([] : List Int), 0, 2)))) else (none)) else (none))) else (none))) else (none)) else (none)) else (none)) else (none)) = some (r1, r2, r3, r4) := by first | (rw [hji22] at H; exact H) | (simp only [hji22] at H ⊢; exact H)
                      (try rw [hji22] at c21b0)
                      have hji22w : (IntKind.i64.wrap (1 + t463)) = ji22 := (i64_w _).trans hji22
                      (try rw [hji22] at c2b0)
                      (try rw [hji22] at c2b0)
                      (try rw [hji22] at c4b0)
                      (try rw [hji22] at c5b0)
                      (try rw [hji22] at c5b0)
                      (try rw [hji22] at c19b0)
                      (try rw [hji22] at c19b0)
                      (try rw [hji22] at c21b0)
                      (try rw [hji22] at c21b0)
                      by_cases c23 : 0 ≤ (ji22)
                      · rw [if_pos c23] at H
                        have c23b0 := eq_true c23
                        have c23b1 : decide (0 ≤ (ji22)) = true := decide_eq_true c23
                        clear c23
                        by_cases c24 : (ji22) ≤ (wrap64 ((wrap64 ((wrap64 ((ji22) + (wrap64 (t462)))) + 4)) - 4))
                        · rw [if_pos c24] at H
                          have c24b0 := eq_true c24
                          have c24b1 : decide ((ji22) ≤ (wrap64 ((wrap64 ((wrap64 ((ji22) + (wrap64 (t462)))) + 4)) - 4))) = true := decide_eq_true c24
                          by_cases c25 : (wrap64 ((wrap64 ((wrap64 ((ji22) + (wrap64 (t462)))) + 4)) - 4)) ≤ (l0.length : Int)
                          · rw [if_pos c25] at H
                            have c25b0 := eq_true c25
                            have c25b1 : decide ((wrap64 ((wrap64 ((wrap64 ((ji22) + (wrap64 (t462)))) + 4)) - 4)) ≤ (l0.length : Int)) = true := decide_eq_true c25
                            by_cases c26 : y464.length + ((l0.take ((wrap64 ((wrap64 ((wrap64 ((ji22) + (wrap64 (t462)))) + 4)) - 4)) : Int).toNat).drop ((ji22) : Int).toNat).length < 140737488355328
                            · rw [if_pos c26] at H
                              have LMc26 := Aside0.mk c26
                              clear c26
                              obtain ⟨y468, hy468⟩ : ∃ y_ : List Int, y_ = (y464 ++ ((l0.take ((wrap64 ((wrap64 ((wrap64 ((ji22) + (wrap64 (t462)))) + 4)) - 4)) : Int).toNat).drop ((ji22) : Int).toNat)) := ⟨_, rfl⟩
                              replace H : (if 0 < (l0.length : Int) then ((hucksterref02_Record.f kj13 (wrap64 (rd l0 0)) y468).bind fun t472 => (if 0 ≤ (wrap64 ((wrap64 ((ji22) + (wrap64 (t462)))) + 4)) then (if (wrap64 ((wrap64 ((ji22) + (wrap64 (t462)))) + 4)) ≤ (l0.length : Int) then ((hucksterref02_Bytes.f kj13 t472 (l0.take ((wrap64 ((wrap64 ((ji22) + (wrap64 (t462)))) + 4)) : Int).toNat)).bind fun t476 => (if t476 = true then (some (wrap64 (rd l0 0), y468, wrap64 ((wrap64 ((ji22) + (wrap64 (t462)))) + 4), 0)) else (some (0, ([] : List Int), 0, 2)))) else (none)) else (none))) else (none)) = some (r1, r2, r3, r4) := by first | (rw [hy468]; with_reducible exact H) | (have H2_ := (Option.bind_some _ _).symm.trans H; rw [hy468]; with_reducible exact H2_) | (have H2_ := (Option.bind_some _ _).symm.trans H; with_reducible exact H2_) | with_reducible exact H | (rw [hy468]; exact H) | exact H
                              have Ny468 := Aside0.mk hy468
                              clear hy468
                              by_cases c27 : 0 < (l0.length : Int)
                              · rw [if_pos c27] at H
                                have c27b0 : decide (0 < (l0.length : Int)) = true := decide_eq_true c27
                                have c27b1 : decide (0 < l0.length) = true := decide_eq_true (by omega)
                                clear c27
                                replace H := Option.bind_eq_some_iff.mp H
                                obtain ⟨t472, A280, H⟩ := H
                                replace H : (if 0 ≤ (wrap64 ((wrap64 ((ji22) + (wrap64 (t462)))) + 4)) then (if (wrap64 ((wrap64 ((ji22) + (wrap64 (t462)))) + 4)) ≤ (l0.length : Int) then ((hucksterref02_Bytes.f kj13 t472 (l0.take ((wrap64 ((wrap64 ((ji22) + (wrap64 (t462)))) + 4)) : Int).toNat)).bind fun t476 => (if t476 = true then (some (wrap64 (rd l0 0), y468, wrap64 ((wrap64 ((ji22) + (wrap64 (t462)))) + 4), 0)) else (some (0, ([] : List Int), 0, 2)))) else (none)) else (none)) = some (r1, r2, r3, r4) := H
                                have A28 := Aside0.mk A280
                                clear A280
                                obtain ⟨ji29, hji29⟩ : ∃ j_ : Int, (wrap64 ((wrap64 ((ji22) + (wrap64 (t462)))) + 4)) = j_ := ⟨_, rfl⟩
                                replace H : (if 0 ≤ (ji29) then (if (ji29) ≤ (l0.length : Int) then ((hucksterref02_Bytes.f kj13 t472 (l0.take ((ji29) : Int).toNat)).bind fun t476 => (if t476 = true then (some (wrap64 (rd l0 0), y468, ji29, 0)) else (some (0, ([] : List Int), 0, 2)))) else (none)) else (none)) = some (r1, r2, r3, r4) := by first | (rw [hji29] at H; exact H) | (simp only [hji29] at H ⊢; exact H)
                                (try rw [hji29] at c24b0)
                                (try rw [hji29] at c24b1)
                                (try rw [hji29] at c24)
                                (try rw [hji29] at c25b0)
                                (try rw [hji29] at c25b1)
                                (try rw [hji29] at c25)
                                (try rw [hji29] at Ny468)
                                (try rw [hji29] at A28)
                                have hji29w : (IntKind.i64.wrap ((wrap64 ((ji22) + (wrap64 (t462)))) + 4)) = ji29 := (i64_w _).trans hji29
                                (try rw [hji29] at c2b0)
                                (try rw [hji29] at c2b0)
                                (try rw [hji29] at c4b0)
                                (try rw [hji29] at c5b0)
                                (try rw [hji29] at c5b0)
                                (try rw [hji29] at c19b0)
                                (try rw [hji29] at c19b0)
                                (try rw [hji29] at c21b0)
                                (try rw [hji29] at c21b0)
                                (try rw [hji29] at LMc26)
                                (try rw [hji29] at c27b0)
                                by_cases c30 : 0 ≤ (ji29)
                                · rw [if_pos c30] at H
                                  have c30b0 := eq_true c30
                                  have c30b1 : decide (0 ≤ (ji29)) = true := decide_eq_true c30
                                  clear c30
                                  by_cases c31 : (ji29) ≤ (l0.length : Int)
                                  · rw [if_pos c31] at H
                                    have c31b0 := eq_true c31
                                    have c31b1 : decide ((ji29) ≤ (l0.length : Int)) = true := decide_eq_true c31
                                    clear c31
                                    replace H := Option.bind_eq_some_iff.mp H
                                    obtain ⟨t476, A320, H⟩ := H
                                    replace H : (if t476 = true then (some (wrap64 (rd l0 0), y468, ji29, 0)) else (some (0, ([] : List Int), 0, 2))) = some (r1, r2, r3, r4) := H
                                    have A32 := Aside0.mk A320
                                    clear A320
                                    by_cases c33 : t476 = true
                                    · subst c33
                                      have H1 : (some (wrap64 (rd l0 0), y468, ji29, 0)) = some (r1, r2, r3, r4) := by rw [if_pos rfl] at H; exact H
                                      clear H
                                      have H := H1
                                      clear H1
                                      simp only [Option.some.injEq, Prod.mk.injEq] at H
                                      obtain ⟨rfl, rfl, rfl, rfl⟩ := H
                                      try go_wp2_with (first | ((with_reducible refine gate_dst (N := 48) rfl ?_); refine Kd.R_lit (Kd.int .u8) _ 5 ?hg (N := 48) ?hd (xs := ([] : List Int)) (inner := []) (ok := fun _ => True) (okp := fun _ => True) ?hr ?hp (fun _ hk => hk) trivial (Below.refl _ _) (Nat.le_refl _) (by simp) ?_; (case hd => rfl); (case hg => rfl); (case hr => first | (go_simp; done) | (go_simp; rfl)); (case hp => exact (Reps.none _ _)); intro v465 w34 ho35 hb hg_ hnew_; clear hg_ hnew_; (first | rw [← Ny464.out] at ho35 | (simp only [Int.reduceToNat] at ho35; rw [← Ny464.out] at ho35)); have n0_ := Aside0.mk (Kd.R_lower ho35 (below_size (by repeat (first | (with_reducible first | exact HB.out | apply below_alloc | apply pw_below_drewN | apply below_drew1) | exact HB.out)))); have n1_ := Aside0.mk (below_step (by repeat (first | (with_reducible first | exact HB.out | apply below_alloc | apply pw_below_drewN | apply below_drew1) | exact HB.out)) hb); clear HB; have HO466 := n0_; have HB := n1_; clear n0_ n1_; clear hb ho35; obtain ⟨i036, hi036, _, hsz36, _⟩ := info_parts info5; obtain ⟨A36, hcut36, hA36, hC36⟩ := print_mid_of (P := Try.prog) (Value.int .u8) 0 27 5 .i64 .i64 Try.underlying27 hi036 hsz36 A0 c0 l0 (ji22) (wrap64 ((ji29) - 4)) (of_decide_eq_true (by first | (with_reducible assumption) | assumption)) (by first | omega | exact of_decide_eq_true (by first | (with_reducible assumption) | assumption)) (of_decide_eq_true (by first | (with_reducible assumption) | assumption)) HC0.out; have HR467 := Aside0.mk (Kd.C_of_reads (h1 := fun _ => rfl) (hA36 _ (Kd.reads_of_C HR0.out))); have HC467 := Aside0.mk hC36; clear hA36 hC36 hi036 hsz36) | ((with_reducible refine gate_builtin (b := .append) (xs := #[.tmp 48, .tmp 54]) rfl ?_); at_builtin; refine Kd.R_append_rows (Kd.int .u8) (w0 := w) w.heap.size rfl (.tmp 48) (.tmp 54) 27 5 (.int .u8 0) 1 rfl Try.underlying27 info5 rfl (by decide) (by omega) v465 y464 ((l0.take ((wrap64 ((ji29) - 4)) : Int).toNat).drop ((ji22) : Int).toNat) _ _ _ (fun _ => True) (fun _ => False) rfl rfl ?aO ?aR (fun _ _ h => h) (fun _ h => h.elim) ?aF ?aB ?aS ?aL ?_; (case aR => first | (rw [← show ((l0.take ((wrap64 ((ji29) - 4)) : Int).toNat).drop ((ji22) : Int).toNat).length = ((wrap64 ((ji29) - 4)).toNat - (ji22).toNat) from (by rw [List.length_drop, List.length_take]; have h_ : ((wrap64 ((ji29) - 4)) : Int) ≤ (l0.length : Int) := of_decide_eq_true (by first | (with_reducible assumption) | assumption); omega)]; repeat (first | exact (Kd.C_below HR467.out HB.out) | (with_reducible refine Kd.C_alloc ?_ _) | (with_reducible refine Kd.C_drewN ?_ _) | (with_reducible refine Kd.C_drew ?_))) | (repeat (first | exact (Kd.C_below HR467.out HB.out) | (with_reducible refine Kd.C_alloc ?_ _) | (with_reducible refine Kd.C_drewN ?_ _) | (with_reducible refine Kd.C_drew ?_)))); (case aB => exact (by repeat (first | (with_reducible first | exact HB.out | apply below_alloc | apply pw_below_drewN | apply below_drew1) | exact HB.out))); (case aF => exact (fun _ _ => trivial)); (case aO => exact (by (with_reducible repeat (first | apply Kd.R_alloc | apply Kd.R_drewN | apply Kd.R_drew)); exact HO466.out)); (case aS => exact (below_size (by repeat (first | (with_reducible first | exact HB.out | apply below_alloc | apply pw_below_drewN | apply below_drew1) | exact HB.out)))); (case aL => have := LMc26.out; have hlx_ := (show ((l0.take ((wrap64 ((ji29) - 4)) : Int).toNat).drop ((ji22) : Int).toNat).length = ((wrap64 ((ji29) - 4)).toNat - (ji22).toNat) from (by rw [List.length_drop, List.length_take]; have h_ : ((wrap64 ((ji29) - 4)) : Int) ≤ (l0.length : Int) := of_decide_eq_true (by first | (with_reducible assumption) | assumption); omega)); omega); intro v469 w37 ho hb hg hat; rw [← Ny468.out] at ho; have n0_ := Aside0.mk (hb); have n1_ := Aside0.mk (ho); clear HB; clear HO466; have HB := n0_; have HO470 := n1_; clear n0_ n1_; clear ho hb hg hat))
                                      have n0_ := Aside0.mk (Kd.R_drew HO470.out)
                                      have n1_ := Aside0.mk (below_drew1 HB.out)
                                      clear HO470
                                      clear HB
                                      have HO470 := n0_
                                      have HB := n1_
                                      clear n0_ n1_
                                      have p471 : 0 ≤ (0 : Int) := (by omega)
                                      have q471 : 0 < (l0.length : Int) := of_decide_eq_true (by first | (with_reducible assumption) | assumption)
                                      obtain ⟨ad471, e471, hx471_0⟩ := Kd.at_int HR0.out 0 p471 q471
                                      have hw471_0 := hx471_0
                                      (try rw [show ((0 : Int)).toNat = 0 from rfl] at hw471_0)
                                      (try rw [show 0 * 1 = 0 from rfl] at hw471_0)
                                      (try rw [Addr.add_zero'] at hw471_0)
                                      cases e471
                                      have qi471 : (0 < l0.length) = True := eq_true (by omega)
                                      (try rw [show ((0 : Int)).toNat = 0 from rfl] at hx471_0)
                                      (try rw [Addr.add_zero'] at hx471_0)
                                      replace hx471_0 := (HB.out.cell (World.block_lt_of_cell? w _ hx471_0)).trans hx471_0
                                      replace p471 := eq_true p471
                                      replace q471 := eq_true q471
                                      obtain ⟨i039, hi039, _, hsz39, _⟩ := info_parts info5
                                      obtain ⟨hcut39, hA39, hC39⟩ := print_take_of (P := Try.prog) (Value.int .u8) 0 27 5 .i64 Try.underlying27 hi039 hsz39 (some ad471) c0 l0 (ji29) (of_decide_eq_true (by first | (with_reducible assumption) | assumption)) (of_decide_eq_true (by first | (with_reducible assumption) | assumption)) HC0.out
                                      have HR475 := Aside0.mk (Kd.C_of_reads (h1 := fun _ => rfl) (hA39 _ (Kd.reads_of_C HR0.out)))
                                      have HC475 := Aside0.mk hC39
                                      clear hA39 hC39 hi039 hsz39
                                      obtain ⟨Ao40, co40, eo40⟩ := Kd.R_slice HO470.out
                                      (first | subst eo40 | (injection eo40 with f1_ f2_ f3_; have f4_ := f1_.symm; have f5_ := f3_.symm; clear f1_ f2_ f3_; subst f4_; subst f5_))
                                      refine start_ (n := 11) (S := fun w' => w'.cell? ad471 = some (.int .u8 (rd l0 0))) (ds := []) #[false, false, false, false, false, false, false, false, false, false, false] (by kernel_rfl) rfl rfl (((HB.out.cell (World.block_lt_of_cell? w _ hw471_0)).trans hw471_0)) (fun hHeld => ?_); refine with_tabW hucksterref02_GetRecord.tab14 hucksterref02_GetRecord.bits14 (fun HT_ HW_ => ?_)
                                      generalize w37.drew = w38 at HO470 HB HR475 hx471_0 hHeld ⊢
                                      refine pure_ (i := 0) (N := some 56) (v := ?_) (a' := ?_) #[true, false, false, false, false, false, false, false, false, false, false] rfl rfl (any_of HT_.out (by kernel_rfl)) (fun _ _ _ h => h) (Or.inl ⟨by rfl, ?_⟩) ?_ ?_
                                      rotate_left
                                      · intro w'
                                        go_simp
                                        with_reducible rfl
                                      rotate_left
                                      · simp only [Act.put, List.setIfInBounds_toArray, List.set_cons_zero, List.set_cons_succ, i64_w, i32_w]
                                        rfl
                                      refine pure_ (i := 1) (N := some 57) (v := ?_) (a' := ?_) #[true, true, false, false, false, false, false, false, false, false, false] rfl rfl (any_of HT_.out (by kernel_rfl)) (fun _ _ _ h => h) (Or.inl ⟨by rfl, ?_⟩) ?_ ?_
                                      rotate_left
                                      · intro w'
                                        go_simp
                                        with_reducible rfl
                                      rotate_left
                                      · simp only [Act.put, List.setIfInBounds_toArray, List.set_cons_zero, List.set_cons_succ, i64_w, i32_w]
                                        rfl
                                      refine pure_ (i := 4) (N := some 60) (v := ?_) (a' := ?_) #[true, true, false, false, true, false, false, false, false, false, false] rfl rfl (any_of HT_.out (by kernel_rfl)) (fun _ _ _ h => h) (Or.inl ⟨by rfl, ?_⟩) ?_ ?_
                                      rotate_left
                                      · intro w'
                                        go_simp
                                        with_reducible rfl
                                      rotate_left
                                      · simp only [Act.put, List.setIfInBounds_toArray, List.set_cons_zero, List.set_cons_succ, i64_w, i32_w]
                                        rfl
                                      refine pure_ (i := 6) (N := some 62) (v := ?_) (a' := ?_) #[true, true, false, false, true, false, true, false, false, false, false] rfl rfl (any_of HT_.out (by kernel_rfl)) (fun _ _ _ h => h) (Or.inl ⟨by rfl, ?_⟩) ?_ ?_
                                      rotate_left
                                      · intro w'
                                        go_simp
                                        with_reducible rfl
                                      rotate_left
                                      · simp only [Act.put, List.setIfInBounds_toArray, List.set_cons_zero, List.set_cons_succ, i64_w, i32_w]
                                        rfl
                                      refine pure_ (i := 7) (N := some 63) (v := ?_) (a' := ?_) #[true, true, false, false, true, false, true, true, false, false, false] rfl rfl (any_of HT_.out (by kernel_rfl)) (fun _ _ _ h => h) (Or.inl ⟨by rfl, ?_⟩) ?_ ?_
                                      rotate_left
                                      · intro w'
                                        go_simp
                                        with_reducible rfl
                                      rotate_left
                                      · simp only [Act.put, List.setIfInBounds_toArray, List.set_cons_zero, List.set_cons_succ, i64_w, i32_w]
                                        rfl
                                      refine pure_ (i := 8) (N := some 64) (v := ?_) (a' := ?_) #[true, true, false, false, true, false, true, true, true, false, false] rfl rfl (any_of HT_.out (by kernel_rfl)) (fun _ _ _ h => h) (Or.inl ⟨by rfl, ?_⟩) ?_ ?_
                                      rotate_left
                                      · intro w'
                                        go_simp
                                        with_reducible rfl
                                      rotate_left
                                      · simp only [Act.put, List.setIfInBounds_toArray, List.set_cons_zero, List.set_cons_succ, i64_w, i32_w]
                                        rfl
                                      refine take_ (i := 2) (N := some 58) (v := ?_) (a' := ?_) #[true, true, true, false, true, false, true, true, true, false, false] rfl rfl (take_ofW HT_.out HW_.out (by kernel_rfl)) (fun _ _ _ h => h) (Or.inl ⟨by rfl, ?_⟩) hHeld ?_ ?_
                                      rotate_left
                                      · intro w' s0
                                        go_simp
                                        with_reducible rfl
                                      rotate_left
                                      · simp only [Act.put, List.setIfInBounds_toArray, List.set_cons_zero, List.set_cons_succ, i64_w, i32_w]
                                        rfl
                                      refine pure_ (i := 3) (N := some 59) (v := ?_) (a' := ?_) #[true, true, true, true, true, false, true, true, true, false, false] rfl rfl (any_of HT_.out (by kernel_rfl)) (fun _ _ _ h => h) (Or.inl ⟨by rfl, ?_⟩) ?_ ?_
                                      rotate_left
                                      · intro w'
                                        go_simp
                                        with_reducible rfl
                                      rotate_left
                                      · simp only [Act.put, List.setIfInBounds_toArray, List.set_cons_zero, List.set_cons_succ, i64_w, i32_w]
                                        rfl
                                      refine one_ (i := 5) (N := some 61) #[true, true, true, true, true, true, true, true, true, false, false] rfl rfl (one_of HT_.out (by kernel_rfl)) (by decide) (fun K hK => ?_)
                                      refine goes_ Try.func27 (by kernel_rfl) rfl #[.int .i64 (wrap64 (rd l0 0)), .slice Ao40 y468.length co40] (by rfl) rfl rfl (by (try simp only [List.map_toArray, List.map_cons, List.map_nil]); first | done | rfl | (simp only [List.length_drop, List.length_take]; rfl)) ?_
                                      with_reducible refine (hucksterref02_Record.calls kj13 (wrap64 (rd l0 0)) _ _ y468 t472 _ ?side1 ?side2 A28.out).mono ?_
                                      (case side1 => repeat (first | exact (Kd.R_reads' HO470.out).2.2 | (with_reducible refine Kd.C_alloc ?_ _) | (with_reducible refine Kd.C_drewN ?_ _) | (with_reducible refine Kd.C_drew ?_)))
                                      (case side2 => exact (Kd.R_reads' HO470.out).2.1)
                                      rintro e w41 ⟨v473, rfl, ho0, hb⟩
                                      refine ⟨_, rfl, ?_⟩
                                      have n0_ := Aside0.mk (Kd.R_elder' (by (with_reducible repeat (first | apply Kd.R_alloc | apply Kd.R_drewN | apply Kd.R_drew)); exact HO470.out) (Kd.R_base ho0) hb)
                                      have n1_ := Aside0.mk (Kd.R_lower (Kd.R_new' ho0 (Kd.R_lt (by (with_reducible repeat (first | apply Kd.R_alloc | apply Kd.R_drewN | apply Kd.R_drew)); exact HO470.out))) (below_size (by repeat (first | (with_reducible first | exact HB.out | apply below_alloc | apply pw_below_drewN | apply below_drew1) | exact HB.out))))
                                      have n2_ := Aside0.mk (below_step (by repeat (first | (with_reducible first | exact HB.out | apply below_alloc | apply pw_below_drewN | apply below_drew1) | exact HB.out)) hb)
                                      clear HO470
                                      clear HB
                                      have HO470 := n0_
                                      have HO474 := n1_
                                      have HB := n2_
                                      clear n0_ n1_ n2_
                                      (try clear hb)
                                      (try clear hb2)
                                      (try clear hk)
                                      (try clear hi)
                                      (try clear ho0)
                                      obtain ⟨Ao42, co42, eo42⟩ := Kd.R_slice HO474.out
                                      (first | subst eo42 | (injection eo42 with f1_ f2_ f3_; have f4_ := f1_.symm; have f5_ := f3_.symm; clear f1_ f2_ f3_; subst f4_; subst f5_))
                                      refine hK.out _ _ (((HB.out.cell (World.block_lt_of_cell? w _ hw471_0)).trans hw471_0)) (fun hHeld => ?_)
                                      clear hK K
                                      refine norm_ (a' := ?_) ?_ ?_
                                      rotate_left
                                      · show Act.put _ (some 61) _ = _
                                        simp only [Act.put, List.setIfInBounds_toArray, List.set_cons_zero, List.set_cons_succ, i64_w, i32_w]
                                        rfl
                                      refine one_ (i := 9) (N := some 65) #[true, true, true, true, true, true, true, true, true, true, false] rfl rfl (one_of HT_.out (by kernel_rfl)) (by decide) (fun K hK => ?_)
                                      refine goes_ Try.func11 (by kernel_rfl) rfl #[.slice Ao42 t472.length co42, .slice (some ad471) (l0.take ((ji29) : Int).toNat).length c0] (by rfl) rfl rfl (by (try simp only [List.map_toArray, List.map_cons, List.map_nil]); first | done | (rw [show (l0.take ((ji29) : Int).toNat).length = (ji29).toNat from (by rw [List.length_take]; have h_ : ((ji29) : Int) ≤ (l0.length : Int) := of_decide_eq_true (by first | (with_reducible assumption) | assumption); omega)] <;> rfl) | (simp only [hji29]; rfl) | rfl | (simp only [List.length_drop, List.length_take]; rfl)) ?_
                                      with_reducible refine (hucksterref02_Bytes.calls kj13 _ _ t472 _ _ (l0.take ((ji29) : Int).toNat) true _ ?side1 ?side2 ?side3 ?side4 A32.out).mono ?_
                                      (case side1 => repeat (first | exact (Kd.R_reads' HO474.out).2.2 | (with_reducible refine Kd.C_alloc ?_ _) | (with_reducible refine Kd.C_drewN ?_ _) | (with_reducible refine Kd.C_drew ?_)))
                                      (case side2 => exact (Kd.R_reads' HO474.out).2.1)
                                      (case side3 => repeat (first | exact (Kd.C_below HR475.out HB.out) | (with_reducible refine Kd.C_alloc ?_ _) | (with_reducible refine Kd.C_drewN ?_ _) | (with_reducible refine Kd.C_drew ?_)))
                                      (case side4 => exact HC475.out)
                                      rintro e w' ⟨rfl, ⟨nd, rfl⟩⟩
                                      refine ⟨_, rfl, ?_⟩
                                      refine hK.out _ _ (((HB.out.cell (World.block_lt_of_cell? w _ hw471_0)).trans hw471_0)) (fun hHeld => ?_)
                                      clear hK K
                                      refine norm_ (a' := ?_) ?_ ?_
                                      rotate_left
                                      · show Act.put _ (some 65) _ = _
                                        simp only [Act.put, List.setIfInBounds_toArray, List.set_cons_zero, List.set_cons_succ, i64_w, i32_w]
                                        rfl
                                      refine pure_ (i := 10) (N := some 66) (v := ?_) (a' := ?_) #[true, true, true, true, true, true, true, true, true, true, true] rfl rfl (any_of HT_.out (by kernel_rfl)) (fun _ _ _ h => h) (Or.inl ⟨by rfl, ?_⟩) ?_ ?_
                                      rotate_left
                                      · intro w'
                                        go_simp
                                        with_reducible rfl
                                      rotate_left
                                      · simp only [Act.put, List.setIfInBounds_toArray, List.set_cons_zero, List.set_cons_succ, i64_w, i32_w]
                                        rfl
                                      refine done_ (done_of HT_.out (by kernel_rfl)) ?_
                                      have p477 : 0 ≤ (0 : Int) := (by omega)
                                      have q477 : 0 < (l0.length : Int) := of_decide_eq_true (by first | (with_reducible assumption) | assumption)
                                      obtain ⟨ad477, e477, hx477_0⟩ := Kd.at_int HR0.out 0 p477 q477
                                      obtain rfl : ad471 = ad477 := (by injection e477)
                                      have qi477 : (0 < l0.length) = True := eq_true (by omega)
                                      (try rw [show ((0 : Int)).toNat = 0 from rfl] at hx477_0)
                                      (try rw [Addr.add_zero'] at hx477_0)
                                      replace hx477_0 := (HB.out.cell (World.block_lt_of_cell? w _ hx477_0)).trans hx477_0
                                      replace p477 := eq_true p477
                                      replace q477 := eq_true q477
                                      try go_wp2
                                      refine bodyPost_ret (results_list (rs := [.tmp 2, .tmp 3, .tmp 4, .tmp 5]) rfl (by simp) (.tmp (.tmp (.tmp (.tmp .nil))))) rfl ?_
                                      exact ⟨_, by first | rfl | (simp [errW_none, errW_some] <;> rfl) | (simp only [← hji22, ← hji29]; first | rfl | (simp [errW_none, errW_some] <;> rfl)) | (simp [*, errW_none, errW_some] <;> rfl), by (with_reducible repeat (first | apply Kd.R_alloc | apply Kd.R_drewN | apply Kd.R_drew)); exact Kd.R_mono HO470.out (fun _ hk => trivial), by repeat (first | (with_reducible first | exact HB.out | apply below_alloc | apply pw_below_drewN | apply below_drew1) | exact HB.out)⟩
                                    · replace c33 := Bool.eq_false_iff.mpr c33
                                      subst c33
                                      have H1 : (some (0, ([] : List Int), 0, 2)) = some (r1, r2, r3, r4) := by rw [if_neg (show ¬ (false = true) by decide)] at H; exact H
                                      clear H
                                      have H := H1
                                      clear H1
                                      simp only [Option.some.injEq, Prod.mk.injEq] at H
                                      obtain ⟨rfl, rfl, rfl, rfl⟩ := H
                                      try go_wp2_with (first | ((with_reducible refine gate_dst (N := 48) rfl ?_); refine Kd.R_lit (Kd.int .u8) _ 5 ?hg (N := 48) ?hd (xs := ([] : List Int)) (inner := []) (ok := fun _ => True) (okp := fun _ => True) ?hr ?hp (fun _ hk => hk) trivial (Below.refl _ _) (Nat.le_refl _) (by simp) ?_; (case hd => rfl); (case hg => rfl); (case hr => first | (go_simp; done) | (go_simp; rfl)); (case hp => exact (Reps.none _ _)); intro v465 w43 ho44 hb hg_ hnew_; clear hg_ hnew_; (first | rw [← Ny464.out] at ho44 | (simp only [Int.reduceToNat] at ho44; rw [← Ny464.out] at ho44)); have n0_ := Aside0.mk (Kd.R_lower ho44 (below_size (by repeat (first | (with_reducible first | exact HB.out | apply below_alloc | apply pw_below_drewN | apply below_drew1) | exact HB.out)))); have n1_ := Aside0.mk (below_step (by repeat (first | (with_reducible first | exact HB.out | apply below_alloc | apply pw_below_drewN | apply below_drew1) | exact HB.out)) hb); clear HB; have HO466 := n0_; have HB := n1_; clear n0_ n1_; clear hb ho44; obtain ⟨i045, hi045, _, hsz45, _⟩ := info_parts info5; obtain ⟨A45, hcut45, hA45, hC45⟩ := print_mid_of (P := Try.prog) (Value.int .u8) 0 27 5 .i64 .i64 Try.underlying27 hi045 hsz45 A0 c0 l0 (ji22) (wrap64 ((ji29) - 4)) (of_decide_eq_true (by first | (with_reducible assumption) | assumption)) (by first | omega | exact of_decide_eq_true (by first | (with_reducible assumption) | assumption)) (of_decide_eq_true (by first | (with_reducible assumption) | assumption)) HC0.out; have HR467 := Aside0.mk (Kd.C_of_reads (h1 := fun _ => rfl) (hA45 _ (Kd.reads_of_C HR0.out))); have HC467 := Aside0.mk hC45; clear hA45 hC45 hi045 hsz45) | ((with_reducible refine gate_builtin (b := .append) (xs := #[.tmp 48, .tmp 54]) rfl ?_); at_builtin; refine Kd.R_append_rows (Kd.int .u8) (w0 := w) w.heap.size rfl (.tmp 48) (.tmp 54) 27 5 (.int .u8 0) 1 rfl Try.underlying27 info5 rfl (by decide) (by omega) v465 y464 ((l0.take ((wrap64 ((ji29) - 4)) : Int).toNat).drop ((ji22) : Int).toNat) _ _ _ (fun _ => True) (fun _ => False) rfl rfl ?aO ?aR (fun _ _ h => h) (fun _ h => h.elim) ?aF ?aB ?aS ?aL ?_; (case aR => first | (rw [← show ((l0.take ((wrap64 ((ji29) - 4)) : Int).toNat).drop ((ji22) : Int).toNat).length = ((wrap64 ((ji29) - 4)).toNat - (ji22).toNat) from (by rw [List.length_drop, List.length_take]; have h_ : ((wrap64 ((ji29) - 4)) : Int) ≤ (l0.length : Int) := of_decide_eq_true (by first | (with_reducible assumption) | assumption); omega)]; repeat (first | exact (Kd.C_below HR467.out HB.out) | (with_reducible refine Kd.C_alloc ?_ _) | (with_reducible refine Kd.C_drewN ?_ _) | (with_reducible refine Kd.C_drew ?_))) | (repeat (first | exact (Kd.C_below HR467.out HB.out) | (with_reducible refine Kd.C_alloc ?_ _) | (with_reducible refine Kd.C_drewN ?_ _) | (with_reducible refine Kd.C_drew ?_)))); (case aB => exact (by repeat (first | (with_reducible first | exact HB.out | apply below_alloc | apply pw_below_drewN | apply below_drew1) | exact HB.out))); (case aF => exact (fun _ _ => trivial)); (case aO => exact (by (with_reducible repeat (first | apply Kd.R_alloc | apply Kd.R_drewN | apply Kd.R_drew)); exact HO466.out)); (case aS => exact (below_size (by repeat (first | (with_reducible first | exact HB.out | apply below_alloc | apply pw_below_drewN | apply below_drew1) | exact HB.out)))); (case aL => have := LMc26.out; have hlx_ := (show ((l0.take ((wrap64 ((ji29) - 4)) : Int).toNat).drop ((ji22) : Int).toNat).length = ((wrap64 ((ji29) - 4)).toNat - (ji22).toNat) from (by rw [List.length_drop, List.length_take]; have h_ : ((wrap64 ((ji29) - 4)) : Int) ≤ (l0.length : Int) := of_decide_eq_true (by first | (with_reducible assumption) | assumption); omega)); omega); intro v469 w46 ho hb hg hat; rw [← Ny468.out] at ho; have n0_ := Aside0.mk (hb); have n1_ := Aside0.mk (ho); clear HB; clear HO466; have HB := n0_; have HO470 := n1_; clear n0_ n1_; clear ho hb hg hat))
                                      have n0_ := Aside0.mk (Kd.R_drew HO470.out)
                                      have n1_ := Aside0.mk (below_drew1 HB.out)
                                      clear HO470
                                      clear HB
                                      have HO470 := n0_
                                      have HB := n1_
                                      clear n0_ n1_
                                      have p471 : 0 ≤ (0 : Int) := (by omega)
                                      have q471 : 0 < (l0.length : Int) := of_decide_eq_true (by first | (with_reducible assumption) | assumption)
                                      obtain ⟨ad471, e471, hx471_0⟩ := Kd.at_int HR0.out 0 p471 q471
                                      have hw471_0 := hx471_0
                                      (try rw [show ((0 : Int)).toNat = 0 from rfl] at hw471_0)
                                      (try rw [show 0 * 1 = 0 from rfl] at hw471_0)
                                      (try rw [Addr.add_zero'] at hw471_0)
                                      cases e471
                                      have qi471 : (0 < l0.length) = True := eq_true (by omega)
                                      (try rw [show ((0 : Int)).toNat = 0 from rfl] at hx471_0)
                                      (try rw [Addr.add_zero'] at hx471_0)
                                      replace hx471_0 := (HB.out.cell (World.block_lt_of_cell? w _ hx471_0)).trans hx471_0
                                      replace p471 := eq_true p471
                                      replace q471 := eq_true q471
                                      obtain ⟨i048, hi048, _, hsz48, _⟩ := info_parts info5
                                      obtain ⟨hcut48, hA48, hC48⟩ := print_take_of (P := Try.prog) (Value.int .u8) 0 27 5 .i64 Try.underlying27 hi048 hsz48 (some ad471) c0 l0 (ji29) (of_decide_eq_true (by first | (with_reducible assumption) | assumption)) (of_decide_eq_true (by first | (with_reducible assumption) | assumption)) HC0.out
                                      have HR475 := Aside0.mk (Kd.C_of_reads (h1 := fun _ => rfl) (hA48 _ (Kd.reads_of_C HR0.out)))
                                      have HC475 := Aside0.mk hC48
                                      clear hA48 hC48 hi048 hsz48
                                      obtain ⟨Ao49, co49, eo49⟩ := Kd.R_slice HO470.out
                                      (first | subst eo49 | (injection eo49 with f1_ f2_ f3_; have f4_ := f1_.symm; have f5_ := f3_.symm; clear f1_ f2_ f3_; subst f4_; subst f5_))
                                      refine start_ (n := 11) (S := fun w' => w'.cell? ad471 = some (.int .u8 (rd l0 0))) (ds := []) #[false, false, false, false, false, false, false, false, false, false, false] (by kernel_rfl) rfl rfl (((HB.out.cell (World.block_lt_of_cell? w _ hw471_0)).trans hw471_0)) (fun hHeld => ?_); refine with_tabW hucksterref02_GetRecord.tab14 hucksterref02_GetRecord.bits14 (fun HT_ HW_ => ?_)
                                      generalize w46.drew = w47 at HO470 HB HR475 hx471_0 hHeld ⊢
                                      refine pure_ (i := 0) (N := some 56) (v := ?_) (a' := ?_) #[true, false, false, false, false, false, false, false, false, false, false] rfl rfl (any_of HT_.out (by kernel_rfl)) (fun _ _ _ h => h) (Or.inl ⟨by rfl, ?_⟩) ?_ ?_
                                      rotate_left
                                      · intro w'
                                        go_simp
                                        with_reducible rfl
                                      rotate_left
                                      · simp only [Act.put, List.setIfInBounds_toArray, List.set_cons_zero, List.set_cons_succ, i64_w, i32_w]
                                        rfl
                                      refine pure_ (i := 1) (N := some 57) (v := ?_) (a' := ?_) #[true, true, false, false, false, false, false, false, false, false, false] rfl rfl (any_of HT_.out (by kernel_rfl)) (fun _ _ _ h => h) (Or.inl ⟨by rfl, ?_⟩) ?_ ?_
                                      rotate_left
                                      · intro w'
                                        go_simp
                                        with_reducible rfl
                                      rotate_left
                                      · simp only [Act.put, List.setIfInBounds_toArray, List.set_cons_zero, List.set_cons_succ, i64_w, i32_w]
                                        rfl
                                      refine pure_ (i := 4) (N := some 60) (v := ?_) (a' := ?_) #[true, true, false, false, true, false, false, false, false, false, false] rfl rfl (any_of HT_.out (by kernel_rfl)) (fun _ _ _ h => h) (Or.inl ⟨by rfl, ?_⟩) ?_ ?_
                                      rotate_left
                                      · intro w'
                                        go_simp
                                        with_reducible rfl
                                      rotate_left
                                      · simp only [Act.put, List.setIfInBounds_toArray, List.set_cons_zero, List.set_cons_succ, i64_w, i32_w]
                                        rfl
                                      refine pure_ (i := 6) (N := some 62) (v := ?_) (a' := ?_) #[true, true, false, false, true, false, true, false, false, false, false] rfl rfl (any_of HT_.out (by kernel_rfl)) (fun _ _ _ h => h) (Or.inl ⟨by rfl, ?_⟩) ?_ ?_
                                      rotate_left
                                      · intro w'
                                        go_simp
                                        with_reducible rfl
                                      rotate_left
                                      · simp only [Act.put, List.setIfInBounds_toArray, List.set_cons_zero, List.set_cons_succ, i64_w, i32_w]
                                        rfl
                                      refine pure_ (i := 7) (N := some 63) (v := ?_) (a' := ?_) #[true, true, false, false, true, false, true, true, false, false, false] rfl rfl (any_of HT_.out (by kernel_rfl)) (fun _ _ _ h => h) (Or.inl ⟨by rfl, ?_⟩) ?_ ?_
                                      rotate_left
                                      · intro w'
                                        go_simp
                                        with_reducible rfl
                                      rotate_left
                                      · simp only [Act.put, List.setIfInBounds_toArray, List.set_cons_zero, List.set_cons_succ, i64_w, i32_w]
                                        rfl
                                      refine pure_ (i := 8) (N := some 64) (v := ?_) (a' := ?_) #[true, true, false, false, true, false, true, true, true, false, false] rfl rfl (any_of HT_.out (by kernel_rfl)) (fun _ _ _ h => h) (Or.inl ⟨by rfl, ?_⟩) ?_ ?_
                                      rotate_left
                                      · intro w'
                                        go_simp
                                        with_reducible rfl
                                      rotate_left
                                      · simp only [Act.put, List.setIfInBounds_toArray, List.set_cons_zero, List.set_cons_succ, i64_w, i32_w]
                                        rfl
                                      refine take_ (i := 2) (N := some 58) (v := ?_) (a' := ?_) #[true, true, true, false, true, false, true, true, true, false, false] rfl rfl (take_ofW HT_.out HW_.out (by kernel_rfl)) (fun _ _ _ h => h) (Or.inl ⟨by rfl, ?_⟩) hHeld ?_ ?_
                                      rotate_left
                                      · intro w' s0
                                        go_simp
                                        with_reducible rfl
                                      rotate_left
                                      · simp only [Act.put, List.setIfInBounds_toArray, List.set_cons_zero, List.set_cons_succ, i64_w, i32_w]
                                        rfl
                                      refine pure_ (i := 3) (N := some 59) (v := ?_) (a' := ?_) #[true, true, true, true, true, false, true, true, true, false, false] rfl rfl (any_of HT_.out (by kernel_rfl)) (fun _ _ _ h => h) (Or.inl ⟨by rfl, ?_⟩) ?_ ?_
                                      rotate_left
                                      · intro w'
                                        go_simp
                                        with_reducible rfl
                                      rotate_left
                                      · simp only [Act.put, List.setIfInBounds_toArray, List.set_cons_zero, List.set_cons_succ, i64_w, i32_w]
                                        rfl
                                      refine one_ (i := 5) (N := some 61) #[true, true, true, true, true, true, true, true, true, false, false] rfl rfl (one_of HT_.out (by kernel_rfl)) (by decide) (fun K hK => ?_)
                                      refine goes_ Try.func27 (by kernel_rfl) rfl #[.int .i64 (wrap64 (rd l0 0)), .slice Ao49 y468.length co49] (by rfl) rfl rfl (by (try simp only [List.map_toArray, List.map_cons, List.map_nil]); first | done | rfl | (simp only [List.length_drop, List.length_take]; rfl)) ?_
                                      with_reducible refine (hucksterref02_Record.calls kj13 (wrap64 (rd l0 0)) _ _ y468 t472 _ ?side1 ?side2 A28.out).mono ?_
                                      (case side1 => repeat (first | exact (Kd.R_reads' HO470.out).2.2 | (with_reducible refine Kd.C_alloc ?_ _) | (with_reducible refine Kd.C_drewN ?_ _) | (with_reducible refine Kd.C_drew ?_)))
                                      (case side2 => exact (Kd.R_reads' HO470.out).2.1)
                                      rintro e w50 ⟨v473, rfl, ho0, hb⟩
                                      refine ⟨_, rfl, ?_⟩
                                      have n0_ := Aside0.mk (Kd.R_elder' (by (with_reducible repeat (first | apply Kd.R_alloc | apply Kd.R_drewN | apply Kd.R_drew)); exact HO470.out) (Kd.R_base ho0) hb)
                                      have n1_ := Aside0.mk (Kd.R_lower (Kd.R_new' ho0 (Kd.R_lt (by (with_reducible repeat (first | apply Kd.R_alloc | apply Kd.R_drewN | apply Kd.R_drew)); exact HO470.out))) (below_size (by repeat (first | (with_reducible first | exact HB.out | apply below_alloc | apply pw_below_drewN | apply below_drew1) | exact HB.out))))
                                      have n2_ := Aside0.mk (below_step (by repeat (first | (with_reducible first | exact HB.out | apply below_alloc | apply pw_below_drewN | apply below_drew1) | exact HB.out)) hb)
                                      clear HO470
                                      clear HB
                                      have HO470 := n0_
                                      have HO474 := n1_
                                      have HB := n2_
                                      clear n0_ n1_ n2_
                                      (try clear hb)
                                      (try clear hb2)
                                      (try clear hk)
                                      (try clear hi)
                                      (try clear ho0)
                                      obtain ⟨Ao51, co51, eo51⟩ := Kd.R_slice HO474.out
                                      (first | subst eo51 | (injection eo51 with f1_ f2_ f3_; have f4_ := f1_.symm; have f5_ := f3_.symm; clear f1_ f2_ f3_; subst f4_; subst f5_))
                                      refine hK.out _ _ (((HB.out.cell (World.block_lt_of_cell? w _ hw471_0)).trans hw471_0)) (fun hHeld => ?_)
                                      clear hK K
                                      refine norm_ (a' := ?_) ?_ ?_
                                      rotate_left
                                      · show Act.put _ (some 61) _ = _
                                        simp only [Act.put, List.setIfInBounds_toArray, List.set_cons_zero, List.set_cons_succ, i64_w, i32_w]
                                        rfl
                                      refine one_ (i := 9) (N := some 65) #[true, true, true, true, true, true, true, true, true, true, false] rfl rfl (one_of HT_.out (by kernel_rfl)) (by decide) (fun K hK => ?_)
                                      refine goes_ Try.func11 (by kernel_rfl) rfl #[.slice Ao51 t472.length co51, .slice (some ad471) (l0.take ((ji29) : Int).toNat).length c0] (by rfl) rfl rfl (by (try simp only [List.map_toArray, List.map_cons, List.map_nil]); first | done | (rw [show (l0.take ((ji29) : Int).toNat).length = (ji29).toNat from (by rw [List.length_take]; have h_ : ((ji29) : Int) ≤ (l0.length : Int) := of_decide_eq_true (by first | (with_reducible assumption) | assumption); omega)] <;> rfl) | (simp only [hji29]; rfl) | rfl | (simp only [List.length_drop, List.length_take]; rfl)) ?_
                                      with_reducible refine (hucksterref02_Bytes.calls kj13 _ _ t472 _ _ (l0.take ((ji29) : Int).toNat) false _ ?side1 ?side2 ?side3 ?side4 A32.out).mono ?_
                                      (case side1 => repeat (first | exact (Kd.R_reads' HO474.out).2.2 | (with_reducible refine Kd.C_alloc ?_ _) | (with_reducible refine Kd.C_drewN ?_ _) | (with_reducible refine Kd.C_drew ?_)))
                                      (case side2 => exact (Kd.R_reads' HO474.out).2.1)
                                      (case side3 => repeat (first | exact (Kd.C_below HR475.out HB.out) | (with_reducible refine Kd.C_alloc ?_ _) | (with_reducible refine Kd.C_drewN ?_ _) | (with_reducible refine Kd.C_drew ?_)))
                                      (case side4 => exact HC475.out)
                                      rintro e w' ⟨rfl, ⟨nd, rfl⟩⟩
                                      refine ⟨_, rfl, ?_⟩
                                      refine hK.out _ _ (((HB.out.cell (World.block_lt_of_cell? w _ hw471_0)).trans hw471_0)) (fun hHeld => ?_)
                                      clear hK K
                                      refine norm_ (a' := ?_) ?_ ?_
                                      rotate_left
                                      · show Act.put _ (some 65) _ = _
                                        simp only [Act.put, List.setIfInBounds_toArray, List.set_cons_zero, List.set_cons_succ, i64_w, i32_w]
                                        rfl
                                      refine pure_ (i := 10) (N := some 66) (v := ?_) (a' := ?_) #[true, true, true, true, true, true, true, true, true, true, true] rfl rfl (any_of HT_.out (by kernel_rfl)) (fun _ _ _ h => h) (Or.inl ⟨by rfl, ?_⟩) ?_ ?_
                                      rotate_left
                                      · intro w'
                                        go_simp
                                        with_reducible rfl
                                      rotate_left
                                      · simp only [Act.put, List.setIfInBounds_toArray, List.set_cons_zero, List.set_cons_succ, i64_w, i32_w]
                                        rfl
                                      refine done_ (done_of HT_.out (by kernel_rfl)) ?_
                                      try go_wp2
                                      refine bodyPost_ret (results_list (rs := [.tmp 2, .tmp 3, .tmp 4, .tmp 5]) rfl (by simp) (.tmp (.tmp (.tmp (.tmp .nil))))) rfl ?_
                                      exact ⟨_, by first | rfl | (simp [errW_none, errW_some] <;> rfl) | (simp only [← hji22, ← hji29]; first | rfl | (simp [errW_none, errW_some] <;> rfl)) | (simp [*, errW_none, errW_some] <;> rfl), by first | exact Kd.R_nil _ _ _ _ _ | exact Kd.N_nil _ _ _ _ _ | exact Kd.V_nil _ _ _ _ _ | exact Kd.Q_nil _ _ _ _ _ | exact Kd.S_nil _ _ _ _ _, by repeat (first | (with_reducible first | exact HB.out | apply below_alloc | apply pw_below_drewN | apply below_drew1) | exact HB.out)⟩
                                  · rw [if_neg c31] at H
                                    exact absurd H (by simp)
                                · rw [if_neg c30] at H
                                  exact absurd H (by simp)
                              · rw [if_neg c27] at H
                                exact absurd H (by simp)
                            · rw [if_neg c26] at H
                              exact absurd H (by simp)
                          · rw [if_neg c25] at H
                            exact absurd H (by simp)
                        · rw [if_neg c24] at H
                          exact absurd H (by simp)
                      · rw [if_neg c23] at H
                        exact absurd H (by simp)
          · rw [if_neg c7] at H
            exact absurd H (by simp)

end Go.Proofs.Ytgobbmhkmnaegaa.PWire
