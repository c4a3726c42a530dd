-- Written by a program of this session (a patched printer) out of the translation. Not trusted: Lean checks it.
import Derived.Test.YtgobbmhkmnaegaaPWirex0
import Derived.Test.YtgobbmhkmnaegaaPWirex1
import Derived.Test.YtgobbmhkmnaegaaPWirex4
import Derived.Test.YtgobbmhkmnaegaaPWirex5
import Derived.Test.YtgobbmhkmnaegaaPWirex10
namespace Go.Proofs.Ytgobbmhkmnaegaa.PWire
open Go.RowKit Go.Proofs.YtgobbmhkmnaegaaW.PrintWords Go.Proofs.YtgobbmhkmnaegaaW.PrintLast Go.Proofs.YtgobbmhkmnaegaaW.PrintMore
attribute [local go_sem] max2_int min2_int max_two min_two max_three min_three max_four min_four   -- for this text's walks alone
set_option linter.unusedVariables false
set_option linter.unusedSimpArgs false

/-! ### wire_GetRecord: function 28 -/
mutual
def wire_GetRecord.j0 : Nat → List Int → Bool → Option (Int × List Int × Int × Int)
  | 0, _, _ => none
  | k + 1, x0, x15 => if x15 = true then (some (0, ([] : List Int), 0, 2)) else (if 1 ≤ (x0.length : Int) then ((wire_short.f k (x0.drop 1) 65536).bind fun t409 => (if t409 = true then (some (0, ([] : List Int), 0, 3)) else ((wire_GetNum.f k (x0.drop 1)).bind fun bt415 => (if bt415.2.2 = 0 then (wire_GetRecord.j1 k x0 bt415.1 bt415.2.1 (decide (bt415.1 > 65536))) else (wire_GetRecord.j1 k x0 bt415.1 bt415.2.1 true))))) else (none))
def wire_GetRecord.j1 : Nat → List Int → Int → Int → Bool → Option (Int × List Int × Int × Int)
  | 0, _, _, _, _ => none
  | k + 1, x0, x6, x7, x42 => if x42 = true then (some (0, ([] : List Int), 0, 2)) else (if (x0.length : Int) < (wrap64 ((wrap64 ((wrap64 (1 + x7)) + (wrap64 (x6)))) + 4)) then (some (0, ([] : List Int), 0, 3)) else (if 0 ≤ (wrap64 ((wrap64 (1 + x7)) + (wrap64 (x6)))) then (if (wrap64 ((wrap64 (1 + x7)) + (wrap64 (x6)))) ≤ (x0.length : Int) then ((sum_Of.f k (([(x0.take ((wrap64 ((wrap64 (1 + x7)) + (wrap64 (x6)))) : Int).toNat)] : List (List Int)))).bind fun t426 => (if (wrap64 ((wrap64 (1 + x7)) + (wrap64 (x6)))) ≤ (wrap64 ((wrap64 ((wrap64 (1 + x7)) + (wrap64 (x6)))) + 4)) then (if (wrap64 ((wrap64 ((wrap64 (1 + x7)) + (wrap64 (x6)))) + 4)) ≤ (x0.length : Int) then ((bytes_Equal.f ((x0.take ((wrap64 ((wrap64 ((wrap64 (1 + x7)) + (wrap64 (x6)))) + 4)) : Int).toNat).drop ((wrap64 ((wrap64 (1 + x7)) + (wrap64 (x6)))) : Int).toNat) (([(t426 / 16777216) % 256, (t426 / 65536) % 256, (t426 / 256) % 256, (t426) % 256] : List Int))).bind fun t435 => (if t435 = true then (if 0 < (x0.length : Int) then (if 0 ≤ (wrap64 (1 + x7)) then (if (wrap64 (1 + x7)) ≤ (wrap64 ((wrap64 (1 + x7)) + (wrap64 (x6)))) then ((bytes_Clone.f ((x0.take ((wrap64 ((wrap64 (1 + x7)) + (wrap64 (x6)))) : Int).toNat).drop ((wrap64 (1 + x7)) : Int).toNat)).bind fun t442 => (some (wrap64 (rd x0 0), t442, wrap64 ((wrap64 ((wrap64 (1 + x7)) + (wrap64 (x6)))) + 4), 0))) else (none)) else (none)) else (none)) else (some (0, ([] : List Int), 0, 2)))) else (none)) else (none))) else (none)) else (none)))
end
def wire_GetRecord.f (k : Nat) (l0 : List Int) : Option (Int × List Int × Int × Int) := if (l0.length : Int) = 0 then (some (0, ([] : List Int), 0, 3)) else (if 0 < (l0.length : Int) then (if (rd l0 0) < 1 then (wire_GetRecord.j0 k l0 true) else (wire_GetRecord.j0 k l0 (decide ((rd l0 0) > 200)))) else (none))
theorem wire_GetRecord.mono_l : ∀ k, (∀ y0 y1, LeO (wire_GetRecord.j0 k y0 y1) (wire_GetRecord.j0 (k + 1) y0 y1)) ∧ (∀ y0 y1 y2 y3, LeO (wire_GetRecord.j1 k y0 y1 y2 y3) (wire_GetRecord.j1 (k + 1) y0 y1 y2 y3))
  | 0 => ⟨fun _ _ r h => by simp [wire_GetRecord.j0] at h, fun _ _ _ _ r h => by simp [wire_GetRecord.j1] at h⟩
  | k + 1 => by
    obtain ⟨ih0, ih1⟩ := wire_GetRecord.mono_l k
    refine ⟨?_, ?_⟩
    · intro y0 y1
      unfold wire_GetRecord.j0
      repeat' first
      | (with_reducible exact ih0 _ _)
      | (with_reducible exact ih1 _ _ _ _)
      | (with_reducible exact sum_Of.mono _ _)
      | (with_reducible exact wire_GetNum.mono _ _)
      | (with_reducible exact wire_short.mono _ _ _)
      | (with_reducible exact LeO.refl _)
      | (with_reducible exact LeO.none _)
      | (with_reducible refine LeO.ite ?_ ?_)
      | (with_reducible refine LeO.bind ?_ (fun _ => ?_))
      | exact ih0 _ _
      | exact ih1 _ _ _ _
      | exact sum_Of.mono _ _
      | exact wire_GetNum.mono _ _
      | exact wire_short.mono _ _ _
      | exact LeO.none _
      | refine LeO.ite ?_ ?_
      | refine LeO.bind ?_ (fun _ => ?_)
    · intro y0 y1 y2 y3
      unfold wire_GetRecord.j1
      repeat' first
      | (with_reducible exact ih0 _ _)
      | (with_reducible exact ih1 _ _ _ _)
      | (with_reducible exact sum_Of.mono _ _)
      | (with_reducible exact wire_GetNum.mono _ _)
      | (with_reducible exact wire_short.mono _ _ _)
      | (with_reducible exact LeO.refl _)
      | (with_reducible exact LeO.none _)
      | (with_reducible refine LeO.ite ?_ ?_)
      | (with_reducible refine LeO.bind ?_ (fun _ => ?_))
      | exact ih0 _ _
      | exact ih1 _ _ _ _
      | exact sum_Of.mono _ _
      | exact wire_GetNum.mono _ _
      | exact wire_short.mono _ _ _
      | exact LeO.none _
      | refine LeO.ite ?_ ?_
      | refine LeO.bind ?_ (fun _ => ?_)
theorem wire_GetRecord.mono : ∀ a0 k, LeO (wire_GetRecord.f k a0) (wire_GetRecord.f (k + 1) a0) := by
  intro a0 k
  obtain ⟨ih0, ih1⟩ := wire_GetRecord.mono_l k
  unfold wire_GetRecord.f
  repeat' first
      | (with_reducible exact ih0 _ _)
      | (with_reducible exact ih1 _ _ _ _)
      | (with_reducible exact sum_Of.mono _ _)
      | (with_reducible exact wire_GetNum.mono _ _)
      | (with_reducible exact wire_short.mono _ _ _)
      | (with_reducible exact LeO.refl _)
      | (with_reducible exact LeO.none _)
      | (with_reducible refine LeO.ite ?_ ?_)
      | (with_reducible refine LeO.bind ?_ (fun _ => ?_))
      | exact ih0 _ _
      | exact ih1 _ _ _ _
      | exact sum_Of.mono _ _
      | exact wire_GetNum.mono _ _
      | exact wire_short.mono _ _ _
      | exact LeO.none _
      | refine LeO.ite ?_ ?_
      | refine LeO.bind ?_ (fun _ => ?_)
def wire_GetRecord.T17 : Bool × List (List Nat × List Nat) := (true, [([], []), ([0], [0]), ([1], [1]), ([2], [2]), ([], []), ([], []), ([], []), ([4, 5, 6], [4, 5, 6]), ([7], [7]), ([], []), ([9], [9]), ([3, 8, 0, 1, 2, 3], [3]), ([8, 11, 0, 1, 2, 3, 4, 5, 6, 7, 8, 11], [8]), ([10, 12, 0, 1, 2, 3, 4, 5, 6, 7, 8, 9, 10, 11, 12], [10]), ([13, 0, 1, 2, 3, 4, 5, 6, 7, 8, 9, 10, 11, 12, 13], [])])
def wire_GetRecord.B17 : List Nat := [0, 1, 3, 7, 0, 0, 0, 112, 240, 0, 512, 511, 2559, 8191, 16383]
theorem wire_GetRecord.tab17 : rtab .any (opsOf Try.f28 17) = wire_GetRecord.T17 := by kernel_rfl
theorem wire_GetRecord.bits17 : waitsOk wire_GetRecord.T17.2 wire_GetRecord.B17 = true := by kernel_rfl
set_option maxHeartbeats 8000000 in
set_option maxRecDepth 100000 in
theorem wire_GetRecord.calls (k : Nat) (P0_ : Nat → Prop) (A0 : Option Addr) (c0 : Nat) (l0 : List Int) (r1 : Int) (r2 : List Int) (r3 : Int) (r4 : Int) (w : World) (hs0 : Kd.V (Kd.int .u8) 5 w w.heap.size (fun k_ => P0_ k_) (.slice A0 l0.length c0) l0) (h : wire_GetRecord.f k l0 = some (r1, r2, r3, r4)) :
    Calls Try.prog 28 #[.slice A0 l0.length c0] w fun e w' => ∃ v1_ : Value, e = .returned (.tuple #[.int .i64 r1, v1_, .int .i64 r3, .int .i64 r4]) ∧ Kd.R (Kd.int .u8) 5 w' w.heap.size (fun k_ => (w.heap.size ≤ k_)) v1_ r2 ∧ Below w.heap.size w w' := by
  have HO0 := Aside0.mk (show Kd.V (Kd.int .u8) 5 w w.heap.size (fun k_ => (P0_ k_ ∨ w.heap.size ≤ k_)) (.slice A0 l0.length c0) l0 from Kd.V_mono hs0 (fun k_ hk => .inl hk))
  have HB := Aside0.mk (Below.refl w.heap.size w)
  have H : (if (l0.length : Int) = 0 then (some (0, ([] : List Int), 0, 3)) else (if 0 < (l0.length : Int) then (if (rd l0 0) < 1 then (wire_GetRecord.j0 k l0 true) else (wire_GetRecord.j0 k l0 (decide ((rd l0 0) > 200)))) else (none))) = some (r1, r2, r3, r4) := h
  clear h
  by_cases c2 : (l0.length : Int) = 0
  · rw [if_pos c2] at H
    have c2b0 : ((l0.length : Int) == 0) = true := beq_iff_eq.mpr c2
    have c2b1 : ((l0.length : Int) != 0) = false := bne_eq_false_iff_eq.mpr c2
    clear c2
    simp only [Option.some.injEq, Prod.mk.injEq] at H
    obtain ⟨rfl, rfl, rfl, rfl⟩ := H
    go_enter Try.func28, Try.ntmps28
    go_wp2
    refine bodyPost_ret (results_list (rs := [.tmp 2, .tmp 3, .tmp 4, .tmp 5]) rfl (by simp) (.tmp (.tmp (.tmp (.tmp .nil))))) rfl ?_
    exact ⟨_, by first | rfl | (simp [errW_none, errW_some] <;> rfl) | (simp [*, errW_none, errW_some] <;> rfl), by first | exact Kd.R_nil _ _ _ _ _ | exact Kd.N_nil _ _ _ _ _ | exact Kd.V_nil _ _ _ _ _ | exact Kd.Q_nil _ _ _ _ _ | exact Kd.S_nil _ _ _ _ _, by repeat (first | (with_reducible first | exact HB.out | apply below_alloc | apply pw_below_drewN | apply below_drew1) | exact HB.out)⟩
  · rw [if_neg c2] at H
    have c2b0 : ((l0.length : Int) == 0) = false := beq_eq_false_iff_ne.mpr c2
    have c2b1 : ((l0.length : Int) != 0) = true := bne_iff_ne.mpr c2
    have c2b2 : ¬ (l0 = []) := fun h_ => c2 (by rw [h_]; rfl)
    have HC3 := Aside0.mk H
    clear H
    go_enter Try.func28, Try.ntmps28
    go_upto_region 3 with (fail)
    go_cut [15] (fun v15 wc => ∃ (kq : Nat) (x15_2 : Bool), v15 = .bool x15_2 ∧ Aside0 (wire_GetRecord.j0 kq l0 x15_2 = some (r1, r2, r3, r4)) ∧ Aside0 (kq ≤ k) ∧ Aside0 (Kd.V (Kd.int .u8) 5 wc w.heap.size (fun k_ => (P0_ k_ ∨ w.heap.size ≤ k_)) (.slice A0 l0.length c0) l0) ∧ Aside0 (Below w.heap.size w wc))
    case first =>
      have H := HC3.out
      clear HC3
      by_cases c4 : 0 < (l0.length : Int)
      · rw [if_pos c4] at H
        have c4b0 : decide (0 < (l0.length : Int)) = true := decide_eq_true c4
        have c4b1 : decide (0 < l0.length) = true := decide_eq_true (by omega)
        clear c4
        (first | rw [c4b0] | (simp only [i64_w, i32_w]; rw [c4b0]) | skip)
        by_cases c5 : (rd l0 0) < 1
        · rw [if_pos c5] at H
          have c5b0 : decide ((rd l0 0) < 1) = true := decide_eq_true c5
          clear c5
          have H' := Aside0.mk H
          clear H
          have p402 : 0 ≤ (0 : Int) := (by omega)
          have q402 : 0 < (l0.length : Int) := of_decide_eq_true (by first | (with_reducible assumption) | assumption)
          obtain ⟨ad402, e402, hx402_0⟩ := Kd.at_int (Kd.V_reads' HO0.out).2.2 0 p402 q402
          cases e402
          have qi402 : (0 < l0.length) = True := eq_true (by omega)
          (try rw [show ((0 : Int)).toNat = 0 from rfl] at hx402_0)
          (try rw [Addr.add_zero'] at hx402_0)
          replace p402 := eq_true p402
          replace q402 := eq_true q402
          go_wp2
          go_meet
          case rel => exact ⟨_, (true), (by first | rfl | (simp; done) | (simp [*]; done)), H', ⟨by first | omega | exact Nat.le_refl _⟩, ⟨by (with_reducible repeat (first | apply Kd.V_alloc | apply Kd.V_drewN | apply Kd.V_drew)); exact HO0.out⟩, ⟨by repeat (first | (with_reducible first | exact HB.out | apply below_alloc | apply pw_below_drewN | apply below_drew1) | exact HB.out)⟩⟩
        · rw [if_neg c5] at H
          have c5b0 : decide ((rd l0 0) < 1) = false := decide_eq_false c5
          clear c5
          have H' := Aside0.mk H
          clear H
          have p402 : 0 ≤ (0 : Int) := (by omega)
          have q402 : 0 < (l0.length : Int) := of_decide_eq_true (by first | (with_reducible assumption) | assumption)
          obtain ⟨ad402, e402, hx402_0⟩ := Kd.at_int (Kd.V_reads' HO0.out).2.2 0 p402 q402
          cases e402
          have qi402 : (0 < l0.length) = True := eq_true (by omega)
          (try rw [show ((0 : Int)).toNat = 0 from rfl] at hx402_0)
          (try rw [Addr.add_zero'] at hx402_0)
          replace p402 := eq_true p402
          replace q402 := eq_true q402
          have p403 : 0 ≤ (0 : Int) := (by omega)
          have q403 : 0 < (l0.length : Int) := of_decide_eq_true (by first | (with_reducible assumption) | assumption)
          obtain ⟨ad403, e403, hx403_0⟩ := Kd.at_int (Kd.V_reads' HO0.out).2.2 0 p403 q403
          obtain rfl : ad402 = ad403 := (by injection e403)
          have qi403 : (0 < l0.length) = True := eq_true (by omega)
          (try rw [show ((0 : Int)).toNat = 0 from rfl] at hx403_0)
          (try rw [Addr.add_zero'] at hx403_0)
          replace p403 := eq_true p403
          replace q403 := eq_true q403
          go_wp2
          go_meet
          case rel => exact ⟨_, (decide ((rd l0 0) > 200)), (by first | rfl | (simp; done) | (simp [*]; done)), H', ⟨by first | omega | exact Nat.le_refl _⟩, ⟨by (with_reducible repeat (first | apply Kd.V_alloc | apply Kd.V_drewN | apply Kd.V_drew)); exact HO0.out⟩, ⟨by repeat (first | (with_reducible first | exact HB.out | apply below_alloc | apply pw_below_drewN | apply below_drew1) | exact HB.out)⟩⟩
      · rw [if_neg c4] at H
        exact absurd H (by simp)
    case rest =>
      clear HC3
      try clear c2
      try clear c2b0
      try clear c2b1
      try clear c2b2
      try clear p2
      try clear c4
      try clear c4b0
      try clear c4b1
      try clear p4
      try clear q4
      try clear hx4
      try clear qi4
      try clear c5
      try clear c5b0
      try clear hx402_0
      try clear hx403_0
      try clear p402
      try clear p403
      try clear q402
      try clear q403
      obtain ⟨kq, x15_2, rfl, HA, HJ2, HO_0, HB⟩ := hcut
      cases kq with
      | zero => exact absurd HA.out (by simp [wire_GetRecord.j0])
      | succ kj2 =>
        have H := HA.out
        clear HA
        simp only [wire_GetRecord.j0] at H
        by_cases c6 : x15_2 = true
        · subst c6
          have H1 : (some (0, ([] : List Int), 0, 2)) = some (r1, r2, r3, r4) := by rw [if_pos rfl] at H; exact H
          clear H
          have H := H1
          clear H1
          simp only [Option.some.injEq, Prod.mk.injEq] at H
          obtain ⟨rfl, rfl, rfl, rfl⟩ := H
          go_wp2
          refine bodyPost_ret (results_list (rs := [.tmp 2, .tmp 3, .tmp 4, .tmp 5]) rfl (by simp) (.tmp (.tmp (.tmp (.tmp .nil))))) rfl ?_
          exact ⟨_, by first | rfl | (simp [errW_none, errW_some] <;> rfl) | (simp [*, errW_none, errW_some] <;> rfl), by first | exact Kd.R_nil _ _ _ _ _ | exact Kd.N_nil _ _ _ _ _ | exact Kd.V_nil _ _ _ _ _ | exact Kd.Q_nil _ _ _ _ _ | exact Kd.S_nil _ _ _ _ _, by repeat (first | (with_reducible first | exact HB.out | apply below_alloc | apply pw_below_drewN | apply below_drew1) | exact HB.out)⟩
        · replace c6 := Bool.eq_false_iff.mpr c6
          subst c6
          have H1 : (if 1 ≤ (l0.length : Int) then ((wire_short.f kj2 (l0.drop 1) 65536).bind fun t409 => (if t409 = true then (some (0, ([] : List Int), 0, 3)) else ((wire_GetNum.f kj2 (l0.drop 1)).bind fun bt415 => (if bt415.2.2 = 0 then (wire_GetRecord.j1 kj2 l0 bt415.1 bt415.2.1 (decide (bt415.1 > 65536))) else (wire_GetRecord.j1 kj2 l0 bt415.1 bt415.2.1 true))))) else (none)) = some (r1, r2, r3, r4) := by rw [if_neg (show ¬ (false = true) by decide)] at H; exact H
          clear H
          have H := H1
          clear H1
          by_cases c7 : 1 ≤ (l0.length : Int)
          · rw [if_pos c7] at H
            have c7b0 := eq_true c7
            have c7b1 : decide (1 ≤ (l0.length : Int)) = true := decide_eq_true c7
            clear c7
            obtain ⟨y404, hy404⟩ : ∃ y_ : List Int, y_ = (l0.drop 1) := ⟨_, rfl⟩
            replace H : ((wire_short.f kj2 y404 65536).bind fun t409 => (if t409 = true then (some (0, ([] : List Int), 0, 3)) else ((wire_GetNum.f kj2 (l0.drop 1)).bind fun bt415 => (if bt415.2.2 = 0 then (wire_GetRecord.j1 kj2 l0 bt415.1 bt415.2.1 (decide (bt415.1 > 65536))) else (wire_GetRecord.j1 kj2 l0 bt415.1 bt415.2.1 true))))) = some (r1, r2, r3, r4) := by first | (rw [hy404]; with_reducible exact H) | (have H2_ := (Option.bind_some _ _).symm.trans H; rw [hy404]; with_reducible exact H2_) | (have H2_ := (Option.bind_some _ _).symm.trans H; with_reducible exact H2_) | with_reducible exact H | (rw [hy404]; exact H) | exact H
            have Ny404 := Aside0.mk hy404
            clear hy404
            replace H := Option.bind_eq_some_iff.mp H
            obtain ⟨t409, A80, H⟩ := H
            replace H : (if t409 = true then (some (0, ([] : List Int), 0, 3)) else ((wire_GetNum.f kj2 (l0.drop 1)).bind fun bt415 => (if bt415.2.2 = 0 then (wire_GetRecord.j1 kj2 l0 bt415.1 bt415.2.1 (decide (bt415.1 > 65536))) else (wire_GetRecord.j1 kj2 l0 bt415.1 bt415.2.1 true)))) = some (r1, r2, r3, r4) := H
            have A8 := Aside0.mk A80
            clear A80
            by_cases c9 : t409 = true
            · subst c9
              have H1 : (some (0, ([] : List Int), 0, 3)) = some (r1, r2, r3, r4) := by rw [if_pos rfl] at H; exact H
              clear H
              have H := H1
              clear H1
              simp only [Option.some.injEq, Prod.mk.injEq] at H
              obtain ⟨rfl, rfl, rfl, rfl⟩ := H
              have q10 : (1 : Int) ≤ ((l0.length : Int) : Int) := of_decide_eq_true (by first | (with_reducible assumption) | assumption)
              obtain ⟨i010, hi010, _, hsz10, _⟩ := info_parts info5
              have hroom10 : l0.length ≤ c0 := (Kd.V_reads' HO_0.out).2.1
              have hC10 : Kd.F (Kd.int .u8) _ _ A0 l0.length l0 := (Kd.V_at (base := w.heap.size) HO_0.out).2.2
              have hcut10 := cut_from (P := Try.prog) 27 5 .i64 Try.underlying27 hi010 1 hsz10 A0 l0.length c0 1 (by omega) q10
              have hr10 := Kd.F_cut (m := (1 : Int).toNat) (c := c0) hC10 (by omega) hroom10
              obtain ⟨A10, hA10⟩ : ∃ A1, A1 = (if c0 = (1 : Int).toNat then A0 else (A0 : Option Addr).map (·.add ((1 : Int).toNat * 1))) := ⟨_, rfl⟩
              obtain ⟨c10, hc10⟩ : ∃ c1, c1 = c0 - (1 : Int).toNat := ⟨_, rfl⟩
              have hy10 : y404.length = l0.length - (1 : Int).toNat := (by rw [Ny404.out, List.length_drop] <;> omega)
              rw [show (l0).drop (1 : Int).toNat = y404 from Ny404.out.symm] at hr10
              replace hr10 : Kd.F (Kd.int .u8) _ _ A10 y404.length y404 := (by rw [hA10]; exact hr10)
              rw [← hy10, ← hA10, ← hc10] at hcut10
              have HO408 := Aside0.mk (show Kd.V (Kd.int .u8) 5 _ w.heap.size _ (.slice A10 y404.length c10) y404 from Kd.V_mk (by rw [hy10, hc10]; exact Nat.sub_le_sub_right hroom10 _) hr10)
              have HC408 := Aside0.mk (show y404.length ≤ c10 from by rw [hy10, hc10]; exact Nat.sub_le_sub_right hroom10 _)
              have KC10 := Aside0.mk hc10
              clear hr10 hC10 hroom10 hi010 hsz10 hc10
              have KY10 := Aside0.mk hy10
              have KA10 := Aside0.mk hA10
              clear hy10 hA10
              replace q10 := eq_true q10
              go_wp2_with (first | ((with_reducible refine gate_callee (f := 34) rfl ?_); refine goesL_ (some 29) rfl rfl Try.func34 (by kernel_rfl) rfl #[.slice A10 y404.length c10, .int .u64 65536] rfl (by (try simp only [List.map_toArray, List.map_cons, List.map_nil]); first | done | rfl | (simp only [List.length_drop, List.length_take]; rfl)) ?_; (with_reducible refine (wire_short.calls kj2 _ _ y404 65536 true _ ?side1 ?side2 A8.out).mono ?_); (case side1 => repeat (first | exact (Kd.V_reads' HO408.out).2.2 | (with_reducible refine Kd.C_alloc ?_ _) | (with_reducible refine Kd.C_drewN ?_ _) | (with_reducible refine Kd.C_drew ?_))); (case side2 => exact (Kd.V_reads' HO408.out).2.1); rintro e w' ⟨rfl, ⟨nd, rfl⟩⟩; refine ⟨_, rfl, ?_⟩))
              refine bodyPost_ret (results_list (rs := [.tmp 2, .tmp 3, .tmp 4, .tmp 5]) rfl (by simp) (.tmp (.tmp (.tmp (.tmp .nil))))) rfl ?_
              exact ⟨_, by first | rfl | (simp [errW_none, errW_some] <;> rfl) | (simp [*, errW_none, errW_some] <;> rfl), by first | exact Kd.R_nil _ _ _ _ _ | exact Kd.N_nil _ _ _ _ _ | exact Kd.V_nil _ _ _ _ _ | exact Kd.Q_nil _ _ _ _ _ | exact Kd.S_nil _ _ _ _ _, by repeat (first | (with_reducible first | exact HB.out | apply below_alloc | apply pw_below_drewN | apply below_drew1) | exact HB.out)⟩
            · replace c9 := Bool.eq_false_iff.mpr c9
              subst c9
              have H1 : ((wire_GetNum.f kj2 (l0.drop 1)).bind fun bt415 => (if bt415.2.2 = 0 then (wire_GetRecord.j1 kj2 l0 bt415.1 bt415.2.1 (decide (bt415.1 > 65536))) else (wire_GetRecord.j1 kj2 l0 bt415.1 bt415.2.1 true))) = some (r1, r2, r3, r4) := by rw [if_neg (show ¬ (false = true) by decide)] at H; exact H
              clear H
              have H := H1
              clear H1
              have c11b0 := eq_true (of_decide_eq_true (by first | (with_reducible assumption) | assumption) : 1 ≤ (l0.length : Int))
              obtain ⟨y410, hy410⟩ : ∃ y_ : List Int, y_ = (l0.drop 1) := ⟨_, rfl⟩
              replace H : ((wire_GetNum.f kj2 y410).bind fun bt415 => (if bt415.2.2 = 0 then (wire_GetRecord.j1 kj2 l0 bt415.1 bt415.2.1 (decide (bt415.1 > 65536))) else (wire_GetRecord.j1 kj2 l0 bt415.1 bt415.2.1 true))) = some (r1, r2, r3, r4) := by first | (rw [hy410]; with_reducible exact H) | (have H2_ := (Option.bind_some _ _).symm.trans H; rw [hy410]; with_reducible exact H2_) | (have H2_ := (Option.bind_some _ _).symm.trans H; with_reducible exact H2_) | with_reducible exact H | (rw [hy410]; exact H) | exact H
              have Ny410 := Aside0.mk hy410
              clear hy410
              replace H := Option.bind_eq_some_iff.mp H
              obtain ⟨⟨t415, t416, t417⟩, A120, H⟩ := H
              replace H : (if t417 = 0 then (wire_GetRecord.j1 kj2 l0 t415 t416 (decide (t415 > 65536))) else (wire_GetRecord.j1 kj2 l0 t415 t416 true)) = some (r1, r2, r3, r4) := H
              have A12 := Aside0.mk A120
              clear A120
              have HC13 := Aside0.mk H
              clear H
              have q14 : (1 : Int) ≤ ((l0.length : Int) : Int) := of_decide_eq_true (by first | (with_reducible assumption) | assumption)
              obtain ⟨i014, hi014, _, hsz14, _⟩ := info_parts info5
              have hroom14 : l0.length ≤ c0 := (Kd.V_reads' HO_0.out).2.1
              have hC14 : Kd.F (Kd.int .u8) _ _ A0 l0.length l0 := (Kd.V_at (base := w.heap.size) HO_0.out).2.2
              have hcut14 := cut_from (P := Try.prog) 27 5 .i64 Try.underlying27 hi014 1 hsz14 A0 l0.length c0 1 (by omega) q14
              have hr14 := Kd.F_cut (m := (1 : Int).toNat) (c := c0) hC14 (by omega) hroom14
              obtain ⟨A14, hA14⟩ : ∃ A1, A1 = (if c0 = (1 : Int).toNat then A0 else (A0 : Option Addr).map (·.add ((1 : Int).toNat * 1))) := ⟨_, rfl⟩
              obtain ⟨c14, hc14⟩ : ∃ c1, c1 = c0 - (1 : Int).toNat := ⟨_, rfl⟩
              have hy14 : y404.length = l0.length - (1 : Int).toNat := (by rw [Ny404.out, List.length_drop] <;> omega)
              rw [show (l0).drop (1 : Int).toNat = y404 from Ny404.out.symm] at hr14
              replace hr14 : Kd.F (Kd.int .u8) _ _ A14 y404.length y404 := (by rw [hA14]; exact hr14)
              rw [← hy14, ← hA14, ← hc14] at hcut14
              have HO408 := Aside0.mk (show Kd.V (Kd.int .u8) 5 _ w.heap.size _ (.slice A14 y404.length c14) y404 from Kd.V_mk (by rw [hy14, hc14]; exact Nat.sub_le_sub_right hroom14 _) hr14)
              have HC408 := Aside0.mk (show y404.length ≤ c14 from by rw [hy14, hc14]; exact Nat.sub_le_sub_right hroom14 _)
              have KC14 := Aside0.mk hc14
              clear hr14 hC14 hroom14 hi014 hsz14 hc14
              have KY14 := Aside0.mk hy14
              have KA14 := Aside0.mk hA14
              clear hy14 hA14
              replace q14 := eq_true q14
              go_upto_region 8 with (first | ((with_reducible refine gate_callee (f := 34) rfl ?_); refine goesL_ (some 29) rfl rfl Try.func34 (by kernel_rfl) rfl #[.slice A14 y404.length c14, .int .u64 65536] rfl (by (try simp only [List.map_toArray, List.map_cons, List.map_nil]); first | done | rfl | (simp only [List.length_drop, List.length_take]; rfl)) ?_; (with_reducible refine (wire_short.calls kj2 _ _ y404 65536 false _ ?side1 ?side2 A8.out).mono ?_); (case side1 => repeat (first | exact (Kd.V_reads' HO408.out).2.2 | (with_reducible refine Kd.C_alloc ?_ _) | (with_reducible refine Kd.C_drewN ?_ _) | (with_reducible refine Kd.C_drew ?_))); (case side2 => exact (Kd.V_reads' HO408.out).2.1); rintro e w' ⟨rfl, ⟨nd, rfl⟩⟩; refine ⟨_, rfl, ?_⟩; have q15 : (1 : Int) ≤ ((l0.length : Int) : Int) := of_decide_eq_true (by first | (with_reducible assumption) | assumption); obtain ⟨i015, hi015, _, hsz15, _⟩ := info_parts info5; have hroom15 : l0.length ≤ c0 := (Kd.V_reads' HO_0.out).2.1; have hC15 : Kd.F (Kd.int .u8) _ _ A0 l0.length l0 := (Kd.V_at (base := w.heap.size) HO_0.out).2.2; (try clear hcut14); have hcut15 := cut_from (P := Try.prog) 27 5 .i64 Try.underlying27 hi015 1 hsz15 A0 l0.length c0 1 (by omega) q15; have hr15 := Kd.F_cut (m := (1 : Int).toNat) (c := c0) hC15 (by omega) hroom15; obtain ⟨A15, hA15⟩ : ∃ A1, A1 = (if c0 = (1 : Int).toNat then A0 else (A0 : Option Addr).map (·.add ((1 : Int).toNat * 1))) := ⟨_, rfl⟩; obtain ⟨c15, hc15⟩ : ∃ c1, c1 = c0 - (1 : Int).toNat := ⟨_, rfl⟩; have hy15 : y410.length = l0.length - (1 : Int).toNat := (by rw [Ny410.out, List.length_drop] <;> omega); rw [show (l0).drop (1 : Int).toNat = y410 from Ny410.out.symm] at hr15; replace hr15 : Kd.F (Kd.int .u8) _ _ A15 y410.length y410 := (by rw [hA15]; exact hr15); rw [← hy15, ← hA15, ← hc15] at hcut15; have HO414 := Aside0.mk (show Kd.V (Kd.int .u8) 5 _ w.heap.size _ (.slice A15 y410.length c15) y410 from Kd.V_mk (by rw [hy15, hc15]; exact Nat.sub_le_sub_right hroom15 _) hr15); have HC414 := Aside0.mk (show y410.length ≤ c15 from by rw [hy15, hc15]; exact Nat.sub_le_sub_right hroom15 _); have KC15 := Aside0.mk hc15; clear hr15 hC15 hroom15 hi015 hsz15 hc15; have KY15 := Aside0.mk hy15; have KA15 := Aside0.mk hA15; clear hy15 hA15; (try rw [show y404 = y410 from Ny404.out.trans Ny410.out.symm]); (try rw [show A14 = A15 from KA14.out.trans KA15.out.symm]); (try rw [show c14 = c15 from KC14.out.trans KC15.out.symm]); replace q15 := eq_true q15) | ((with_reducible refine gate_callee (f := 18) rfl ?_); refine goesL_ (some 33) rfl rfl Try.func18 (by kernel_rfl) rfl #[.slice A15 y410.length c15] rfl (by (try simp only [List.map_toArray, List.map_cons, List.map_nil]); first | done | rfl | (simp only [List.length_drop, List.length_take]; rfl)) ?_; (with_reducible refine (wire_GetNum.calls kj2 _ _ y410 t415 t416 t417 _ ?side1 ?side2 A12.out).mono ?_); (case side1 => repeat (first | exact (Kd.V_reads' HO414.out).2.2 | (with_reducible refine Kd.C_alloc ?_ _) | (with_reducible refine Kd.C_drewN ?_ _) | (with_reducible refine Kd.C_drew ?_))); (case side2 => exact (Kd.V_reads' HO414.out).2.1); rintro e w' ⟨rfl, ⟨nd, rfl⟩⟩; refine ⟨_, rfl, ?_⟩))
              (try simp only [Act.put, List.setIfInBounds_toArray, List.set_cons_zero, List.set_cons_succ])
              go_cut [42] (fun v42 wc => ∃ (kq : Nat) (x42_12 : Bool), v42 = .bool x42_12 ∧ Aside0 (wire_GetRecord.j1 kq l0 t415 t416 x42_12 = some (r1, r2, r3, r4)) ∧ Aside0 (kq ≤ kj2) ∧ Aside0 (Kd.V (Kd.int .u8) 5 wc w.heap.size (fun k_ => (P0_ k_ ∨ w.heap.size ≤ k_)) (.slice A0 l0.length c0) l0) ∧ Aside0 (Below w.heap.size w wc))
              case first =>
                have H := HC13.out
                clear HC13
                by_cases c16 : t417 = 0
                · rw [if_pos c16] at H
                  have c16b0 : (t417 == 0) = true := beq_iff_eq.mpr c16
                  have c16b1 : (t417 != 0) = false := bne_eq_false_iff_eq.mpr c16
                  clear c16
                  (first | rw [c16b0] | (simp only [i64_w, i32_w]; rw [c16b0]) | skip)
                  have H' := Aside0.mk H
                  clear H
                  go_wp2
                  go_meet
                  case rel => exact ⟨_, (decide (t415 > 65536)), (by first | rfl | (simp; done) | (simp [*]; done)), H', ⟨by have := HJ2.out; first | omega | exact Nat.le_refl _⟩, ⟨by (with_reducible repeat (first | apply Kd.V_alloc | apply Kd.V_drewN | apply Kd.V_drew)); exact HO_0.out⟩, ⟨by repeat (first | (with_reducible first | exact HB.out | apply below_alloc | apply pw_below_drewN | apply below_drew1) | exact HB.out)⟩⟩
                · rw [if_neg c16] at H
                  have c16b0 : (t417 == 0) = false := beq_eq_false_iff_ne.mpr c16
                  have c16b1 : (t417 != 0) = true := bne_iff_ne.mpr c16
                  (first | rw [c16b0] | (simp only [i64_w, i32_w]; rw [c16b0]) | skip)
                  have H' := Aside0.mk H
                  clear H
                  go_wp2
                  go_meet
                  case rel => exact ⟨_, (true), (by first | rfl | (simp; done) | (simp [*]; done)), H', ⟨by have := HJ2.out; first | omega | exact Nat.le_refl _⟩, ⟨by (with_reducible repeat (first | apply Kd.V_alloc | apply Kd.V_drewN | apply Kd.V_drew)); exact HO_0.out⟩, ⟨by repeat (first | (with_reducible first | exact HB.out | apply below_alloc | apply pw_below_drewN | apply below_drew1) | exact HB.out)⟩⟩
              case rest =>
                clear HC13
                try clear c1
                try clear q1
                try clear c2
                try clear c2b0
                try clear c2b1
                try clear c2b2
                try clear p2
                try clear c3
                try clear c4
                try clear c4b0
                try clear c4b1
                try clear p4
                try clear q4
                try clear hx4
                try clear qi4
                try clear c5
                try clear c5b0
                try clear c6
                try clear c7
                try clear c7b0
                try clear c7b1
                try clear c9
                try clear c10
                try clear q10
                try clear c11
                try clear c11b0
                try clear c14
                try clear q14
                try clear c15
                try clear q15
                try clear c16
                try clear c16b0
                try clear c16b1
                try clear hx402_0
                try clear hx403_0
                try clear p2
                try clear p4
                try clear p402
                try clear p403
                try clear q10
                try clear q14
                try clear q15
                try clear q4
                try clear q402
                try clear q403
                obtain ⟨kq, x42_12, rfl, HA, HJ12, HO_0, HB⟩ := hcut
                cases kq with
                | zero => exact absurd HA.out (by simp [wire_GetRecord.j1])
                | succ kj12 =>
                  have H := HA.out
                  clear HA
                  simp only [wire_GetRecord.j1] at H
                  by_cases c17 : x42_12 = true
                  · subst c17
                    have H1 : (some (0, ([] : List Int), 0, 2)) = some (r1, r2, r3, r4) := by rw [if_pos rfl] at H; exact H
                    clear H
                    have H := H1
                    clear H1
                    simp only [Option.some.injEq, Prod.mk.injEq] at H
                    obtain ⟨rfl, rfl, rfl, rfl⟩ := H
                    go_wp2
                    refine bodyPost_ret (results_list (rs := [.tmp 2, .tmp 3, .tmp 4, .tmp 5]) rfl (by simp) (.tmp (.tmp (.tmp (.tmp .nil))))) rfl ?_
                    exact ⟨_, by first | rfl | (simp [errW_none, errW_some] <;> rfl) | (simp [*, errW_none, errW_some] <;> rfl), by first | exact Kd.R_nil _ _ _ _ _ | exact Kd.N_nil _ _ _ _ _ | exact Kd.V_nil _ _ _ _ _ | exact Kd.Q_nil _ _ _ _ _ | exact Kd.S_nil _ _ _ _ _, by repeat (first | (with_reducible first | exact HB.out | apply below_alloc | apply pw_below_drewN | apply below_drew1) | exact HB.out)⟩
                  · replace c17 := Bool.eq_false_iff.mpr c17
                    subst c17
                    have H1 : (if (l0.length : Int) < (wrap64 ((wrap64 ((wrap64 (1 + t416)) + (wrap64 (t415)))) + 4)) then (some (0, ([] : List Int), 0, 3)) else (if 0 ≤ (wrap64 ((wrap64 (1 + t416)) + (wrap64 (t415)))) then (if (wrap64 ((wrap64 (1 + t416)) + (wrap64 (t415)))) ≤ (l0.length : Int) then ((sum_Of.f kj12 (([(l0.take ((wrap64 ((wrap64 (1 + t416)) + (wrap64 (t415)))) : Int).toNat)] : List (List Int)))).bind fun t426 => (if (wrap64 ((wrap64 (1 + t416)) + (wrap64 (t415)))) ≤ (wrap64 ((wrap64 ((wrap64 (1 + t416)) + (wrap64 (t415)))) + 4)) then (if (wrap64 ((wrap64 ((wrap64 (1 + t416)) + (wrap64 (t415)))) + 4)) ≤ (l0.length : Int) then ((bytes_Equal.f ((l0.take ((wrap64 ((wrap64 ((wrap64 (1 + t416)) + (wrap64 (t415)))) + 4)) : Int).toNat).drop ((wrap64 ((wrap64 (1 + t416)) + (wrap64 (t415)))) : Int).toNat) (([(t426 / 16777216) % 256, (t426 / 65536) % 256, (t426 / 256) % 256, (t426) % 256] : List Int))).bind fun t435 => (if t435 = true then (if 0 < (l0.length : Int) then (if 0 ≤ (wrap64 (1 + t416)) then (if (wrap64 (1 + t416)) ≤ (wrap64 ((wrap64 (1 + t416)) + (wrap64 (t415)))) then ((bytes_Clone.f ((l0.take ((wrap64 ((wrap64 (1 + t416)) + (wrap64 (t415)))) : Int).toNat).drop ((wrap64 (1 + t416)) : Int).toNat)).bind fun t442 => (some (wrap64 (rd l0 0), t442, wrap64 ((wrap64 ((wrap64 (1 + t416)) + (wrap64 (t415)))) + 4), 0))) else (none)) else (none)) else (none)) else (some (0, ([] : List Int), 0, 2)))) else (none)) else (none))) else (none)) else (none))) = some (r1, r2, r3, r4) := by rw [if_neg (show ¬ (false = true) by decide)] at H; exact H
                    clear H
                    have H := H1
                    clear H1
                    by_cases c18 : (l0.length : Int) < (wrap64 ((wrap64 ((wrap64 (1 + t416)) + (wrap64 (t415)))) + 4))
                    · rw [if_pos c18] at H
                      have c18b0 : decide ((l0.length : Int) < (wrap64 ((wrap64 ((wrap64 (1 + t416)) + (wrap64 (t415)))) + 4))) = true := decide_eq_true c18
                      clear c18
                      simp only [Option.some.injEq, Prod.mk.injEq] at H
                      obtain ⟨rfl, rfl, rfl, rfl⟩ := H
                      go_wp2
                      refine bodyPost_ret (results_list (rs := [.tmp 2, .tmp 3, .tmp 4, .tmp 5]) rfl (by simp) (.tmp (.tmp (.tmp (.tmp .nil))))) rfl ?_
                      exact ⟨_, by first | rfl | (simp [errW_none, errW_some] <;> rfl) | (simp [*, errW_none, errW_some] <;> rfl), by first | exact Kd.R_nil _ _ _ _ _ | exact Kd.N_nil _ _ _ _ _ | exact Kd.V_nil _ _ _ _ _ | exact Kd.Q_nil _ _ _ _ _ | exact Kd.S_nil _ _ _ _ _, by repeat (first | (with_reducible first | exact HB.out | apply below_alloc | apply pw_below_drewN | apply below_drew1) | exact HB.out)⟩
                    · rw [if_neg c18] at H
                      have c18b0 : decide ((l0.length : Int) < (wrap64 ((wrap64 ((wrap64 (1 + t416)) + (wrap64 (t415)))) + 4))) = false := decide_eq_false c18
                      clear c18
                      obtain ⟨ji19, hji19⟩ : ∃ j_ : Int, (wrap64 ((wrap64 (1 + t416)) + (wrap64 (t415)))) = j_ := ⟨_, rfl⟩
                      replace H : (if 0 ≤ (ji19) then (if (ji19) ≤ (l0.length : Int) then ((sum_Of.f kj12 (([(l0.take ((ji19) : Int).toNat)] : List (List Int)))).bind fun t426 => (if (ji19) ≤ (wrap64 ((ji19) + 4)) then (if (wrap64 ((ji19) + 4)) ≤ (l0.length : Int) then ((bytes_Equal.f ((l0.take ((wrap64 ((ji19) + 4)) : Int).toNat).drop ((ji19) : Int).toNat) (([(t426 / 16777216) % 256, (t426 / 65536) % 256, (t426 / 256) % 256, (t426) % 256] : List Int))).bind fun t435 => (if t435 = true then (if 0 < (l0.length : Int) then (if 0 ≤ (wrap64 (1 + t416)) then (if (wrap64 (1 + t416)) ≤ (ji19) then ((bytes_Clone.f ((l0.take ((ji19) : Int).toNat).drop ((wrap64 (1 + t416)) : Int).toNat)).bind fun t442 => (some (wrap64 (rd l0 0), t442, wrap64 ((ji19) + 4), 0))) else (none)) else (none)) else (none)) else (some (0, ([] : List Int), 0, 2)))) else (none)) else (none))) else (none)) else (none)) = some (r1, r2, r3, r4) := by first | (rw [hji19] at H; exact H) | (simp only [hji19] at H ⊢; exact H)
                      (try rw [hji19] at c18b0)
                      have hji19w : (IntKind.i64.wrap ((wrap64 (1 + t416)) + (wrap64 (t415)))) = ji19 := (i64_w _).trans hji19
                      (try rw [hji19] at c2b0)
                      (try rw [hji19] at c2b0)
                      (try rw [hji19] at c4b0)
                      (try rw [hji19] at c5b0)
                      (try rw [hji19] at c5b0)
                      (try rw [hji19] at c16b0)
                      (try rw [hji19] at c16b0)
                      (try rw [hji19] at c18b0)
                      (try rw [hji19] at c18b0)
                      by_cases c20 : 0 ≤ (ji19)
                      · rw [if_pos c20] at H
                        have c20b0 := eq_true c20
                        have c20b1 : decide (0 ≤ (ji19)) = true := decide_eq_true c20
                        clear c20
                        by_cases c21 : (ji19) ≤ (l0.length : Int)
                        · rw [if_pos c21] at H
                          have c21b0 := eq_true c21
                          have c21b1 : decide ((ji19) ≤ (l0.length : Int)) = true := decide_eq_true c21
                          clear c21
                          obtain ⟨y418, hy418⟩ : ∃ y_ : List Int, y_ = (l0.take ((ji19) : Int).toNat) := ⟨_, rfl⟩
                          replace H : ((sum_Of.f kj12 (([y418] : List (List Int)))).bind fun t426 => (if (ji19) ≤ (wrap64 ((ji19) + 4)) then (if (wrap64 ((ji19) + 4)) ≤ (l0.length : Int) then ((bytes_Equal.f ((l0.take ((wrap64 ((ji19) + 4)) : Int).toNat).drop ((ji19) : Int).toNat) (([(t426 / 16777216) % 256, (t426 / 65536) % 256, (t426 / 256) % 256, (t426) % 256] : List Int))).bind fun t435 => (if t435 = true then (if 0 < (l0.length : Int) then (if 0 ≤ (wrap64 (1 + t416)) then (if (wrap64 (1 + t416)) ≤ (ji19) then ((bytes_Clone.f ((l0.take ((ji19) : Int).toNat).drop ((wrap64 (1 + t416)) : Int).toNat)).bind fun t442 => (some (wrap64 (rd l0 0), t442, wrap64 ((ji19) + 4), 0))) else (none)) else (none)) else (none)) else (some (0, ([] : List Int), 0, 2)))) else (none)) else (none))) = some (r1, r2, r3, r4) := by first | (rw [hy418]; with_reducible exact H) | (have H2_ := (Option.bind_some _ _).symm.trans H; rw [hy418]; with_reducible exact H2_) | (have H2_ := (Option.bind_some _ _).symm.trans H; with_reducible exact H2_) | with_reducible exact H | (rw [hy418]; exact H) | exact H
                          have Ny418 := Aside0.mk hy418
                          clear hy418
                          obtain ⟨y423, hy423⟩ : ∃ y_ : List (List Int), y_ = (([y418] : List (List Int))) := ⟨_, rfl⟩
                          replace H : ((sum_Of.f kj12 y423).bind fun t426 => (if (ji19) ≤ (wrap64 ((ji19) + 4)) then (if (wrap64 ((ji19) + 4)) ≤ (l0.length : Int) then ((bytes_Equal.f ((l0.take ((wrap64 ((ji19) + 4)) : Int).toNat).drop ((ji19) : Int).toNat) (([(t426 / 16777216) % 256, (t426 / 65536) % 256, (t426 / 256) % 256, (t426) % 256] : List Int))).bind fun t435 => (if t435 = true then (if 0 < (l0.length : Int) then (if 0 ≤ (wrap64 (1 + t416)) then (if (wrap64 (1 + t416)) ≤ (ji19) then ((bytes_Clone.f ((l0.take ((ji19) : Int).toNat).drop ((wrap64 (1 + t416)) : Int).toNat)).bind fun t442 => (some (wrap64 (rd l0 0), t442, wrap64 ((ji19) + 4), 0))) else (none)) else (none)) else (none)) else (some (0, ([] : List Int), 0, 2)))) else (none)) else (none))) = some (r1, r2, r3, r4) := by first | (rw [hy423]; with_reducible exact H) | (have H2_ := (Option.bind_some _ _).symm.trans H; rw [hy423]; with_reducible exact H2_) | (have H2_ := (Option.bind_some _ _).symm.trans H; with_reducible exact H2_) | with_reducible exact H | (rw [hy423]; exact H) | exact H
                          have Ny423 := Aside0.mk hy423
                          clear hy423
                          replace H := Option.bind_eq_some_iff.mp H
                          obtain ⟨t426, A220, H⟩ := H
                          replace H : (if (ji19) ≤ (wrap64 ((ji19) + 4)) then (if (wrap64 ((ji19) + 4)) ≤ (l0.length : Int) then ((bytes_Equal.f ((l0.take ((wrap64 ((ji19) + 4)) : Int).toNat).drop ((ji19) : Int).toNat) (([(t426 / 16777216) % 256, (t426 / 65536) % 256, (t426 / 256) % 256, (t426) % 256] : List Int))).bind fun t435 => (if t435 = true then (if 0 < (l0.length : Int) then (if 0 ≤ (wrap64 (1 + t416)) then (if (wrap64 (1 + t416)) ≤ (ji19) then ((bytes_Clone.f ((l0.take ((ji19) : Int).toNat).drop ((wrap64 (1 + t416)) : Int).toNat)).bind fun t442 => (some (wrap64 (rd l0 0), t442, wrap64 ((ji19) + 4), 0))) else (none)) else (none)) else (none)) else (some (0, ([] : List Int), 0, 2)))) else (none)) else (none)) = some (r1, r2, r3, r4) := H
                          have A22 := Aside0.mk A220
                          clear A220
                          have c23b0 := eq_true (of_decide_eq_true (by first | (with_reducible assumption) | assumption) : 0 ≤ (ji19))
                          by_cases c24 : (ji19) ≤ (wrap64 ((ji19) + 4))
                          · rw [if_pos c24] at H
                            have c24b0 := eq_true c24
                            have c24b1 : decide ((ji19) ≤ (wrap64 ((ji19) + 4))) = true := decide_eq_true c24
                            by_cases c25 : (wrap64 ((ji19) + 4)) ≤ (l0.length : Int)
                            · rw [if_pos c25] at H
                              have c25b0 := eq_true c25
                              have c25b1 : decide ((wrap64 ((ji19) + 4)) ≤ (l0.length : Int)) = true := decide_eq_true c25
                              obtain ⟨y427, hy427⟩ : ∃ y_ : List Int, y_ = ((l0.take ((wrap64 ((ji19) + 4)) : Int).toNat).drop ((ji19) : Int).toNat) := ⟨_, rfl⟩
                              replace H : ((bytes_Equal.f y427 (([(t426 / 16777216) % 256, (t426 / 65536) % 256, (t426 / 256) % 256, (t426) % 256] : List Int))).bind fun t435 => (if t435 = true then (if 0 < (l0.length : Int) then (if 0 ≤ (wrap64 (1 + t416)) then (if (wrap64 (1 + t416)) ≤ (ji19) then ((bytes_Clone.f ((l0.take ((ji19) : Int).toNat).drop ((wrap64 (1 + t416)) : Int).toNat)).bind fun t442 => (some (wrap64 (rd l0 0), t442, wrap64 ((ji19) + 4), 0))) else (none)) else (none)) else (none)) else (some (0, ([] : List Int), 0, 2)))) = some (r1, r2, r3, r4) := by first | (rw [hy427]; with_reducible exact H) | (have H2_ := (Option.bind_some _ _).symm.trans H; rw [hy427]; with_reducible exact H2_) | (have H2_ := (Option.bind_some _ _).symm.trans H; with_reducible exact H2_) | with_reducible exact H | (rw [hy427]; exact H) | exact H
                              have Ny427 := Aside0.mk hy427
                              clear hy427
                              obtain ⟨y432, hy432⟩ : ∃ y_ : List Int, y_ = (([(t426 / 16777216) % 256, (t426 / 65536) % 256, (t426 / 256) % 256, (t426) % 256] : List Int)) := ⟨_, rfl⟩
                              replace H : ((bytes_Equal.f y427 y432).bind fun t435 => (if t435 = true then (if 0 < (l0.length : Int) then (if 0 ≤ (wrap64 (1 + t416)) then (if (wrap64 (1 + t416)) ≤ (ji19) then ((bytes_Clone.f ((l0.take ((ji19) : Int).toNat).drop ((wrap64 (1 + t416)) : Int).toNat)).bind fun t442 => (some (wrap64 (rd l0 0), t442, wrap64 ((ji19) + 4), 0))) else (none)) else (none)) else (none)) else (some (0, ([] : List Int), 0, 2)))) = some (r1, r2, r3, r4) := by first | (rw [hy432]; with_reducible exact H) | (have H2_ := (Option.bind_some _ _).symm.trans H; rw [hy432]; with_reducible exact H2_) | (have H2_ := (Option.bind_some _ _).symm.trans H; with_reducible exact H2_) | with_reducible exact H | (rw [hy432]; exact H) | exact H
                              have Ny432 := Aside0.mk hy432
                              clear hy432
                              replace H := Option.bind_eq_some_iff.mp H
                              obtain ⟨t435, A260, H⟩ := H
                              replace H : (if t435 = true then (if 0 < (l0.length : Int) then (if 0 ≤ (wrap64 (1 + t416)) then (if (wrap64 (1 + t416)) ≤ (ji19) then ((bytes_Clone.f ((l0.take ((ji19) : Int).toNat).drop ((wrap64 (1 + t416)) : Int).toNat)).bind fun t442 => (some (wrap64 (rd l0 0), t442, wrap64 ((ji19) + 4), 0))) else (none)) else (none)) else (none)) else (some (0, ([] : List Int), 0, 2))) = some (r1, r2, r3, r4) := H
                              have A26 := Aside0.mk A260
                              clear A260
                              by_cases c27 : t435 = true
                              · subst c27
                                have H1 : (if 0 < (l0.length : Int) then (if 0 ≤ (wrap64 (1 + t416)) then (if (wrap64 (1 + t416)) ≤ (ji19) then ((bytes_Clone.f ((l0.take ((ji19) : Int).toNat).drop ((wrap64 (1 + t416)) : Int).toNat)).bind fun t442 => (some (wrap64 (rd l0 0), t442, wrap64 ((ji19) + 4), 0))) else (none)) else (none)) else (none)) = some (r1, r2, r3, r4) := by rw [if_pos rfl] at H; exact H
                                clear H
                                have H := H1
                                clear H1
                                by_cases c28 : 0 < (l0.length : Int)
                                · rw [if_pos c28] at H
                                  have c28b0 : decide (0 < (l0.length : Int)) = true := decide_eq_true c28
                                  have c28b1 : decide (0 < l0.length) = true := decide_eq_true (by omega)
                                  clear c28
                                  obtain ⟨ji29, hji29⟩ : ∃ j_ : Int, (wrap64 (1 + t416)) = j_ := ⟨_, rfl⟩
                                  replace H : (if 0 ≤ (ji29) then (if (ji29) ≤ (ji19) then ((bytes_Clone.f ((l0.take ((ji19) : Int).toNat).drop ((ji29) : Int).toNat)).bind fun t442 => (some (wrap64 (rd l0 0), t442, wrap64 ((ji19) + 4), 0))) else (none)) else (none)) = some (r1, r2, r3, r4) := by first | (rw [hji29] at H; exact H) | (simp only [hji29] at H ⊢; exact H)
                                  (try rw [hji29] at c18b0)
                                  (try rw [hji29] at A22)
                                  (try rw [hji29] at A26)
                                  have hji29w : (IntKind.i64.wrap (1 + t416)) = ji29 := (i64_w _).trans hji29
                                  (try rw [hji29] at c2b0)
                                  (try rw [hji29] at c2b0)
                                  (try rw [hji29] at c4b0)
                                  (try rw [hji29] at c5b0)
                                  (try rw [hji29] at c5b0)
                                  (try rw [hji29] at c16b0)
                                  (try rw [hji29] at c16b0)
                                  (try rw [hji29] at c18b0)
                                  (try rw [hji29] at c18b0)
                                  (try rw [hji29] at c28b0)
                                  (try (have hji19xji29 := hji19; rw [hji29] at hji19xji29; have hji19yji29 := hji19w; rw [hji29] at hji19yji29))
                                  by_cases c30 : 0 ≤ (ji29)
                                  · rw [if_pos c30] at H
                                    have c30b0 := eq_true c30
                                    have c30b1 : decide (0 ≤ (ji29)) = true := decide_eq_true c30
                                    clear c30
                                    by_cases c31 : (ji29) ≤ (ji19)
                                    · rw [if_pos c31] at H
                                      have c31b0 := eq_true c31
                                      have c31b1 : decide ((ji29) ≤ (ji19)) = true := decide_eq_true c31
                                      clear c31
                                      have c32b0 := eq_true (of_decide_eq_true (by first | (with_reducible assumption) | assumption) : (ji19) ≤ (l0.length : Int))
                                      obtain ⟨y437, hy437⟩ : ∃ y_ : List Int, y_ = ((l0.take ((ji19) : Int).toNat).drop ((ji29) : Int).toNat) := ⟨_, rfl⟩
                                      replace H : ((bytes_Clone.f y437).bind fun t442 => (some (wrap64 (rd l0 0), t442, wrap64 ((ji19) + 4), 0))) = some (r1, r2, r3, r4) := by first | (rw [hy437]; with_reducible exact H) | (have H2_ := (Option.bind_some _ _).symm.trans H; rw [hy437]; with_reducible exact H2_) | (have H2_ := (Option.bind_some _ _).symm.trans H; with_reducible exact H2_) | with_reducible exact H | (rw [hy437]; exact H) | exact H
                                      have Ny437 := Aside0.mk hy437
                                      clear hy437
                                      replace H := Option.bind_eq_some_iff.mp H
                                      obtain ⟨t442, A330, H⟩ := H
                                      replace H : (some (wrap64 (rd l0 0), t442, wrap64 ((ji19) + 4), 0)) = some (r1, r2, r3, r4) := H
                                      have A33 := Aside0.mk A330
                                      clear A330
                                      simp only [Option.some.injEq, Prod.mk.injEq] at H
                                      obtain ⟨rfl, rfl, rfl, rfl⟩ := H
                                      have q34 : ((ji19) : Int) ≤ ((l0.length : Int) : Int) := of_decide_eq_true (by first | (with_reducible assumption) | assumption)
                                      obtain ⟨i034, hi034, _, hsz34, _⟩ := info_parts info5
                                      have hroom34 : l0.length ≤ c0 := (Kd.V_reads' HO_0.out).2.1
                                      have hC34 : Kd.F (Kd.int .u8) _ _ A0 l0.length l0 := (Kd.V_at (base := w.heap.size) HO_0.out).2.2
                                      have hcut34 := cut_to (P := Try.prog) 27 5 .i64 Try.underlying27 hi034 A0 l0.length c0 (ji19) (of_decide_eq_true (by first | (with_reducible assumption) | assumption)) q34 hroom34
                                      have hr34 := Kd.F_take (m := ((ji19) : Int).toNat) hC34 (by omega)
                                      have hy34 : y418.length = ((ji19) : Int).toNat := (by rw [Ny418.out, List.length_take]; omega)
                                      rw [← Ny418.out] at hr34
                                      rw [← hy34] at hcut34
                                      have HO422 := Aside0.mk (show Kd.V (Kd.int .u8) 5 _ w.heap.size _ (.slice A0 y418.length c0) y418 from Kd.V_mk (by omega) hr34)
                                      have HC422 := Aside0.mk (show y418.length ≤ c0 from by omega)
                                      clear hr34 hC34 hroom34 hi034 hsz34
                                      have KY34 := Aside0.mk hy34
                                      clear hy34
                                      replace q34 := eq_true q34
                                      try go_wp2_with (first | ((with_reducible refine gate_dst (N := 57) rfl ?_); refine Kd.N_lit (Kd.slice 5 (Kd.int .u8)) _ 27 ?hg (N' := 57) ?hd (xs := ([y418] : List (List Int))) (inner := [.slice A0 y418.length c0]) (ok := (fun k_ => (P0_ k_ ∨ w.heap.size ≤ k_))) (okp := (fun k_ => (P0_ k_ ∨ w.heap.size ≤ k_))) ?hr ?hp (fun _ hk => hk) ((show ∀ k_, wc.heap.size ≤ k_ → (fun k_ => (P0_ k_ ∨ w.heap.size ≤ k_)) k_ from fun k_ hk => (.inr (Nat.le_trans (below_size (by repeat (first | (with_reducible first | exact HB.out | apply below_alloc | apply pw_below_drewN | apply below_drew1) | exact HB.out))) hk))) _ (Nat.le_refl _)) (Below.refl _ _) (Nat.le_refl _) (by simp) ?_; (case hd => rfl); (case hg => rfl); (case hr => first | (go_simp; done) | (go_simp; rfl)); (case hp => exact (Reps.one (show Kd.FK (Kd.slice 5 (Kd.int .u8)) _ _ y418 [.slice A0 y418.length c0] from (Kd.FK_slice_mk (Kd.V_reads' (e := 0) (base := 0) (Kd.V_mono (e := 0) (base := 0) (ok' := (fun k_ => (P0_ k_ ∨ w.heap.size ≤ k_))) (HO422.out) (fun k_ hk => hk))).2.1 (Kd.V_F (e := 0) (base := 0) (Kd.V_mono (e := 0) (base := 0) (ok' := (fun k_ => (P0_ k_ ∨ w.heap.size ≤ k_))) (HO422.out) (fun k_ hk => hk))))) (Reps.none _ _))); intro v424 w35 ho36 hb hg_ hnew_; clear hg_ hnew_; (first | rw [← Ny423.out] at ho36 | (simp only [Int.reduceToNat] at ho36; rw [← Ny423.out] at ho36)); have n0_ := Aside0.mk (Kd.V_elder' (by (with_reducible repeat (first | apply Kd.V_alloc | apply Kd.V_drewN | apply Kd.V_drew)); exact HO_0.out) (Kd.N_base ho36) hb); have n1_ := Aside0.mk (Kd.V_elder' (by (with_reducible repeat (first | apply Kd.V_alloc | apply Kd.V_drewN | apply Kd.V_drew)); exact HO422.out) (Kd.N_base ho36) hb); have n2_ := Aside0.mk (Kd.N_lower ho36 (below_size (by repeat (first | (with_reducible first | exact HB.out | apply below_alloc | apply pw_below_drewN | apply below_drew1) | exact HB.out)))); have n3_ := Aside0.mk (below_step (by repeat (first | (with_reducible first | exact HB.out | apply below_alloc | apply pw_below_drewN | apply below_drew1) | exact HB.out)) hb); clear HO_0; clear HO422; clear HB; have HO_0 := n0_; have HO422 := n1_; have HO425 := n2_; have HB := n3_; clear n0_ n1_ n2_ n3_; clear hb ho36; obtain ⟨Ao37, co37, eo37⟩ := Kd.N_slice HO425.out; subst eo37) | ((with_reducible refine gate_callee (f := 32) rfl ?_); refine goesL_ (some 58) rfl rfl Try.func32 (by kernel_rfl) rfl #[.slice Ao37 y423.length co37] rfl (by (try simp only [List.map_toArray, List.map_cons, List.map_nil]); first | done | rfl | (simp only [List.length_drop, List.length_take]; rfl)) ?_; (with_reducible refine (sum_Of.calls kj12 _ _ y423 t426 _ ?side1 ?side2 A22.out).mono ?_); (case side1 => repeat (first | exact (Kd.N_reads' HO425.out).2.2 | (with_reducible refine Kd.C_alloc ?_ _) | (with_reducible refine Kd.C_drewN ?_ _) | (with_reducible refine Kd.C_drew ?_))); (case side2 => exact (Kd.N_reads' HO425.out).2.1); rintro e w' ⟨rfl, ⟨nd, rfl⟩⟩; refine ⟨_, rfl, ?_⟩; have q38 : ((wrap64 ((ji19) + 4)) : Int) ≤ ((l0.length : Int) : Int) := of_decide_eq_true (by first | (with_reducible assumption) | assumption); obtain ⟨i038, hi038, _, hsz38, _⟩ := info_parts info5; have hroom38 : l0.length ≤ c0 := (Kd.V_reads' HO_0.out).2.1; have hC38 : Kd.F (Kd.int .u8) _ _ A0 l0.length l0 := (Kd.V_at (base := w.heap.size) HO_0.out).2.2; have ql38 : ((ji19) : Int) ≤ ((wrap64 ((ji19) + 4)) : Int) := of_decide_eq_true (by first | (with_reducible assumption) | assumption); have q038 : (0 : Int) ≤ ((ji19) : Int) := of_decide_eq_true (by first | (with_reducible assumption) | assumption); have hcut38 := cut_mid (P := Try.prog) 27 5 .i64 .i64 Try.underlying27 hi038 1 hsz38 A0 l0.length c0 (ji19) (wrap64 ((ji19) + 4)) q038 ql38 q38 hroom38; have hr38 := Kd.F_mid (lo := ((ji19) : Int).toNat) (hi := ((wrap64 ((ji19) + 4)) : Int).toNat) (c := c0) hC38 (by omega) (by omega) hroom38; obtain ⟨A38, hA38⟩ : ∃ A1, A1 = (if c0 = ((ji19) : Int).toNat then A0 else (A0 : Option Addr).map (·.add (((ji19) : Int).toNat * 1))) := ⟨_, rfl⟩; obtain ⟨c38, hc38⟩ : ∃ c1, c1 = c0 - ((ji19) : Int).toNat := ⟨_, rfl⟩; have hy38 : y427.length = ((wrap64 ((ji19) + 4)) : Int).toNat - ((ji19) : Int).toNat := (by rw [Ny427.out, List.length_drop, List.length_take] <;> omega); rw [show ((l0).take ((wrap64 ((ji19) + 4)) : Int).toNat).drop ((ji19) : Int).toNat = y427 from Ny427.out.symm] at hr38; replace hr38 : Kd.F (Kd.int .u8) _ _ A38 y427.length y427 := (by rw [hA38]; exact hr38); rw [← hy38, ← hA38, ← hc38] at hcut38; have HO431 := Aside0.mk (show Kd.V (Kd.int .u8) 5 _ w.heap.size _ (.slice A38 y427.length c38) y427 from Kd.V_mk (by rw [hy38, hc38]; exact Nat.sub_le_sub_right (Nat.le_trans (by omega) hroom38) _) hr38); have HC431 := Aside0.mk (show y427.length ≤ c38 from by rw [hy38, hc38]; exact Nat.sub_le_sub_right (Nat.le_trans (by omega) hroom38) _); have KC38 := Aside0.mk hc38; clear hr38 hC38 hroom38 hi038 hsz38 hc38; have KY38 := Aside0.mk hy38; have KA38 := Aside0.mk hA38; clear hy38 hA38; replace q38 := eq_true q38) | ((with_reducible refine gate_dst (N := 75) rfl ?_); refine Kd.R_lit (Kd.int .u8) _ 5 ?hg (N := 75) ?hd (xs := ([(t426 / 16777216) % 256, (t426 / 65536) % 256, (t426 / 256) % 256, (t426) % 256] : List Int)) (inner := [.int .u8 ((t426 / 16777216) % 256), .int .u8 ((t426 / 65536) % 256), .int .u8 ((t426 / 256) % 256), .int .u8 ((t426) % 256)]) (ok := fun _ => True) (okp := fun _ => True) ?hr ?hp (fun _ hk => hk) trivial (Below.refl _ _) (Nat.le_refl _) (by simp) ?_; (case hd => rfl); (case hg => rfl); (case hr => first | (go_simp; done) | (go_simp; rfl)); (case hp => exact (Reps.one (show Kd.M (Kd.int .u8) _ _ _ ((t426 / 16777216) % 256) [.int .u8 ((t426 / 16777216) % 256)] from rfl) (Reps.one (show Kd.M (Kd.int .u8) _ _ _ ((t426 / 65536) % 256) [.int .u8 ((t426 / 65536) % 256)] from rfl) (Reps.one (show Kd.M (Kd.int .u8) _ _ _ ((t426 / 256) % 256) [.int .u8 ((t426 / 256) % 256)] from rfl) (Reps.one (show Kd.M (Kd.int .u8) _ _ _ ((t426) % 256) [.int .u8 ((t426) % 256)] from rfl) (Reps.none _ _)))))); intro v433 w39 ho40 hb hg_ hnew_; clear hg_ hnew_; (first | rw [← Ny432.out] at ho40 | (simp only [Int.reduceToNat] at ho40; rw [← Ny432.out] at ho40)); have n0_ := Aside0.mk (Kd.V_elder' (by (with_reducible repeat (first | apply Kd.V_alloc | apply Kd.V_drewN | apply Kd.V_drew)); exact HO_0.out) (Kd.R_base ho40) hb); have n1_ := Aside0.mk (Kd.V_elder' (by (with_reducible repeat (first | apply Kd.V_alloc | apply Kd.V_drewN | apply Kd.V_drew)); exact HO422.out) (Kd.R_base ho40) hb); have n2_ := Aside0.mk (Kd.N_elder' (by (with_reducible repeat (first | apply Kd.N_alloc | apply Kd.N_drewN | apply Kd.N_drew)); exact HO425.out) (Kd.R_base ho40) hb); have n3_ := Aside0.mk (Kd.V_elder' (by (with_reducible repeat (first | apply Kd.V_alloc | apply Kd.V_drewN | apply Kd.V_drew)); exact HO431.out) (Kd.R_base ho40) hb); have n4_ := Aside0.mk (Kd.R_lower (Kd.R_newM (M := fun k_ => (w.heap.size ≤ k_)) ho40 (below_size (by repeat (first | (with_reducible first | exact HB.out | apply below_alloc | apply pw_below_drewN | apply below_drew1) | exact HB.out))) (fun k_ h_ => h_)) (below_size (by repeat (first | (with_reducible first | exact HB.out | apply below_alloc | apply pw_below_drewN | apply below_drew1) | exact HB.out)))); have n5_ := Aside0.mk (below_step (by repeat (first | (with_reducible first | exact HB.out | apply below_alloc | apply pw_below_drewN | apply below_drew1) | exact HB.out)) hb); clear HO_0; clear HO422; clear HO425; clear HO431; clear HB; have HO_0 := n0_; have HO422 := n1_; have HO425 := n2_; have HO431 := n3_; have HO434 := n4_; have HB := n5_; clear n0_ n1_ n2_ n3_ n4_ n5_; clear hb ho40; obtain ⟨Ao41, co41, eo41⟩ := Kd.R_slice HO434.out; subst eo41) | ((with_reducible refine gate_callee (f := 35) rfl ?_); refine goesL_ (some 76) rfl rfl Try.func35 (by kernel_rfl) rfl #[.slice A38 y427.length c38, .slice Ao41 y432.length co41] rfl (by (try simp only [List.map_toArray, List.map_cons, List.map_nil]); first | done | rfl | (simp only [List.length_drop, List.length_take]; rfl)) ?_; (with_reducible refine (bytes_Equal.calls _ _ y427 _ _ y432 true _ ?side1 ?side2 ?side3 ?side4 A26.out).mono ?_); (case side1 => repeat (first | exact (Kd.V_reads' HO431.out).2.2 | (with_reducible refine Kd.C_alloc ?_ _) | (with_reducible refine Kd.C_drewN ?_ _) | (with_reducible refine Kd.C_drew ?_))); (case side2 => exact (Kd.V_reads' HO431.out).2.1); (case side3 => repeat (first | exact (Kd.R_reads' HO434.out).2.2 | (with_reducible refine Kd.C_alloc ?_ _) | (with_reducible refine Kd.C_drewN ?_ _) | (with_reducible refine Kd.C_drew ?_))); (case side4 => exact (Kd.R_reads' HO434.out).2.1); rintro e w' ⟨rfl, ⟨nd, rfl⟩⟩; refine ⟨_, rfl, ?_⟩))
                                      (try (rw [drewN_self w39]; generalize hq_ : World.drewN w39 _ = w39; have n0_ : Aside0 (Kd.V (Kd.int .u8) 5 w39 w.heap.size (fun k_ => (P0_ k_ ∨ w.heap.size ≤ k_) ∧ some k_ ≠ (.slice Ao37 y423.length co37 : Value).ownBlock ∧ some k_ ≠ (.slice Ao41 y432.length co41 : Value).ownBlock) (.slice A0 y418.length c0) y418) := ⟨by rw [← hq_]; exact (by (with_reducible repeat (first | apply Kd.V_alloc | apply Kd.V_drewN | apply Kd.V_drew)); exact Kd.V_mono HO422.out (fun _ hk => ⟨hk.1.1, ⟨hk.1.2, hk.2⟩⟩))⟩; have n1_ : Aside0 (Kd.N (Kd.slice 5 (Kd.int .u8)) 27 w39 w.heap.size (fun k_ => (P0_ k_ ∨ w.heap.size ≤ k_) ∧ some k_ ≠ (.slice Ao41 y432.length co41 : Value).ownBlock) (.slice Ao37 y423.length co37) y423) := ⟨by rw [← hq_]; exact (by (with_reducible repeat (first | apply Kd.N_alloc | apply Kd.N_drewN | apply Kd.N_drew)); exact HO425.out)⟩; have n2_ : Aside0 (Kd.V (Kd.int .u8) 5 w39 w.heap.size (fun k_ => (P0_ k_ ∨ w.heap.size ≤ k_) ∧ some k_ ≠ (.slice Ao37 y423.length co37 : Value).ownBlock ∧ some k_ ≠ (.slice Ao41 y432.length co41 : Value).ownBlock) (.slice A38 y427.length c38) y427) := ⟨by rw [← hq_]; exact (by (with_reducible repeat (first | apply Kd.V_alloc | apply Kd.V_drewN | apply Kd.V_drew)); exact Kd.V_mono HO431.out (fun _ hk => ⟨hk.1.1, ⟨hk.1.2, hk.2⟩⟩))⟩; have n3_ : Aside0 (Kd.R (Kd.int .u8) 5 w39 w.heap.size (fun k_ => (w.heap.size ≤ k_)) (.slice Ao41 y432.length co41) y432) := ⟨by rw [← hq_]; exact (by (with_reducible repeat (first | apply Kd.R_alloc | apply Kd.R_drewN | apply Kd.R_drew)); exact Kd.R_mono HO434.out (fun _ hk => hk.1))⟩; have n4_ : Aside0 (Kd.V (Kd.int .u8) 5 w39 w.heap.size (fun k_ => (P0_ k_ ∨ w.heap.size ≤ k_) ∧ some k_ ≠ (.slice Ao37 y423.length co37 : Value).ownBlock ∧ some k_ ≠ (.slice Ao41 y432.length co41 : Value).ownBlock) (.slice A0 l0.length c0) l0) := ⟨by rw [← hq_]; exact (by (with_reducible repeat (first | apply Kd.V_alloc | apply Kd.V_drewN | apply Kd.V_drew)); exact Kd.V_mono HO_0.out (fun _ hk => ⟨hk.1.1, ⟨hk.1.2, hk.2⟩⟩))⟩; have n5_ : Aside0 (Below w.heap.size w w39) := ⟨by rw [← hq_]; exact (by repeat (first | (with_reducible first | exact HB.out | apply below_alloc | apply pw_below_drewN | apply below_drew1) | exact HB.out))⟩; clear HO422 HO425 HO431 HO434 HO_0 HB hq_; have HO422 := n0_; have HO425 := n1_; have HO431 := n2_; have HO434 := n3_; have HO_0 := n4_; have HB := n5_; clear n0_ n1_ n2_ n3_ n4_ n5_))
                                      have n0_ := Aside0.mk (Kd.V_drew HO_0.out)
                                      have n1_ := Aside0.mk (Kd.V_drew HO422.out)
                                      have n2_ := Aside0.mk (Kd.N_drew HO425.out)
                                      have n3_ := Aside0.mk (Kd.V_drew HO431.out)
                                      have n4_ := Aside0.mk (Kd.R_drew HO434.out)
                                      have n5_ := Aside0.mk (below_drew1 HB.out)
                                      clear HO_0
                                      clear HO422
                                      clear HO425
                                      clear HO431
                                      clear HO434
                                      clear HB
                                      have HO_0 := n0_
                                      have HO422 := n1_
                                      have HO425 := n2_
                                      have HO431 := n3_
                                      have HO434 := n4_
                                      have HB := n5_
                                      clear n0_ n1_ n2_ n3_ n4_ n5_
                                      have p436 : 0 ≤ (0 : Int) := (by omega)
                                      have q436 : 0 < (l0.length : Int) := of_decide_eq_true (by first | (with_reducible assumption) | assumption)
                                      obtain ⟨ad436, e436, hx436_0⟩ := Kd.at_int (Kd.V_reads' HO_0.out).2.2 0 p436 q436
                                      cases e436
                                      have qi436 : (0 < l0.length) = True := eq_true (by omega)
                                      (try rw [show ((0 : Int)).toNat = 0 from rfl] at hx436_0)
                                      (try rw [Addr.add_zero'] at hx436_0)
                                      replace p436 := eq_true p436
                                      replace q436 := eq_true q436
                                      have q43 : ((ji19) : Int) ≤ ((l0.length : Int) : Int) := of_decide_eq_true (by first | (with_reducible assumption) | assumption)
                                      obtain ⟨i043, hi043, _, hsz43, _⟩ := info_parts info5
                                      have hroom43 : l0.length ≤ c0 := (Kd.V_reads' HO_0.out).2.1
                                      have hC43 : Kd.F (Kd.int .u8) _ _ (some ad436) l0.length l0 := (Kd.V_at (base := w.heap.size) HO_0.out).2.2
                                      have ql43 : ((ji29) : Int) ≤ ((ji19) : Int) := of_decide_eq_true (by first | (with_reducible assumption) | assumption)
                                      have q043 : (0 : Int) ≤ ((ji29) : Int) := of_decide_eq_true (by first | (with_reducible assumption) | assumption)
                                      have hcut43 := cut_mid (P := Try.prog) 27 5 .i64 .i64 Try.underlying27 hi043 1 hsz43 (some ad436) l0.length c0 (ji29) (ji19) q043 ql43 q43 hroom43
                                      have hr43 := Kd.F_mid (lo := ((ji29) : Int).toNat) (hi := ((ji19) : Int).toNat) (c := c0) hC43 (by omega) (by omega) hroom43
                                      obtain ⟨A43, hA43⟩ : ∃ A1, A1 = (if c0 = ((ji29) : Int).toNat then (some ad436) else ((some ad436) : Option Addr).map (·.add (((ji29) : Int).toNat * 1))) := ⟨_, rfl⟩
                                      obtain ⟨c43, hc43⟩ : ∃ c1, c1 = c0 - ((ji29) : Int).toNat := ⟨_, rfl⟩
                                      have hy43 : y437.length = ((ji19) : Int).toNat - ((ji29) : Int).toNat := (by rw [Ny437.out, List.length_drop, List.length_take] <;> omega)
                                      rw [show ((l0).take ((ji19) : Int).toNat).drop ((ji29) : Int).toNat = y437 from Ny437.out.symm] at hr43
                                      replace hr43 : Kd.F (Kd.int .u8) _ _ A43 y437.length y437 := (by rw [hA43]; exact hr43)
                                      rw [← hy43, ← hA43, ← hc43] at hcut43
                                      have HO441 := Aside0.mk (show Kd.V (Kd.int .u8) 5 _ w.heap.size _ (.slice A43 y437.length c43) y437 from Kd.V_mk (by rw [hy43, hc43]; exact Nat.sub_le_sub_right (Nat.le_trans (by omega) hroom43) _) hr43)
                                      have HC441 := Aside0.mk (show y437.length ≤ c43 from by rw [hy43, hc43]; exact Nat.sub_le_sub_right (Nat.le_trans (by omega) hroom43) _)
                                      have KC43 := Aside0.mk hc43
                                      clear hr43 hC43 hroom43 hi043 hsz43 hc43
                                      have KY43 := Aside0.mk hy43
                                      have KA43 := Aside0.mk hA43
                                      clear hy43 hA43
                                      replace q43 := eq_true q43
                                      refine start_ (n := 15) (S := fun w' => w'.cell? ad436 = some (.int .u8 (rd l0 0))) (ds := []) #[false, false, false, false, false, false, false, false, false, false, false, false, false, false, false] (by kernel_rfl) rfl rfl (hx436_0) (fun hHeld => ?_); refine with_tabW wire_GetRecord.tab17 wire_GetRecord.bits17 (fun HT_ HW_ => ?_)
                                      generalize w39.drew = w42 at HO_0 HO422 HO425 HO431 HO434 HB HO441 hx436_0 hHeld ⊢
                                      refine pure_ (i := 0) (N := some 78) (v := ?_) (a' := ?_) #[true, false, false, false, false, false, false, false, false, false, false, false, false, false, false] rfl rfl (any_of HT_.out (by kernel_rfl)) (fun _ _ _ h => h) (Or.inl ⟨by rfl, ?_⟩) ?_ ?_
                                      rotate_left
                                      · intro w'
                                        go_simp
                                        with_reducible rfl
                                      rotate_left
                                      · simp only [Act.put, List.setIfInBounds_toArray, List.set_cons_zero, List.set_cons_succ, i64_w, i32_w]
                                        rfl
                                      refine pure_ (i := 1) (N := some 79) (v := ?_) (a' := ?_) #[true, true, false, false, false, false, false, false, false, false, false, false, false, false, false] rfl rfl (any_of HT_.out (by kernel_rfl)) (fun _ _ _ h => h) (Or.inl ⟨by rfl, ?_⟩) ?_ ?_
                                      rotate_left
                                      · intro w'
                                        go_simp
                                        with_reducible rfl
                                      rotate_left
                                      · simp only [Act.put, List.setIfInBounds_toArray, List.set_cons_zero, List.set_cons_succ, i64_w, i32_w]
                                        rfl
                                      refine pure_ (i := 4) (N := some 82) (v := ?_) (a' := ?_) #[true, true, false, false, true, false, false, false, false, false, false, false, false, false, false] rfl rfl (any_of HT_.out (by kernel_rfl)) (fun _ _ _ h => h) (Or.inl ⟨by rfl, ?_⟩) ?_ ?_
                                      rotate_left
                                      · intro w'
                                        go_simp
                                        with_reducible rfl
                                      rotate_left
                                      · simp only [Act.put, List.setIfInBounds_toArray, List.set_cons_zero, List.set_cons_succ, i64_w, i32_w]
                                        rfl
                                      refine pure_ (i := 5) (N := some 83) (v := ?_) (a' := ?_) #[true, true, false, false, true, true, false, false, false, false, false, false, false, false, false] rfl rfl (any_of HT_.out (by kernel_rfl)) (fun _ _ _ h => h) (Or.inl ⟨by rfl, ?_⟩) ?_ ?_
                                      rotate_left
                                      · intro w'
                                        go_simp
                                        with_reducible rfl
                                      rotate_left
                                      · simp only [Act.put, List.setIfInBounds_toArray, List.set_cons_zero, List.set_cons_succ, i64_w, i32_w]
                                        rfl
                                      refine pure_ (i := 6) (N := some 84) (v := ?_) (a' := ?_) #[true, true, false, false, true, true, true, false, false, false, false, false, false, false, false] rfl rfl (any_of HT_.out (by kernel_rfl)) (fun _ _ _ h => h) (Or.inl ⟨by rfl, ?_⟩) ?_ ?_
                                      rotate_left
                                      · intro w'
                                        go_simp
                                        with_reducible rfl
                                      rotate_left
                                      · simp only [Act.put, List.setIfInBounds_toArray, List.set_cons_zero, List.set_cons_succ, i64_w, i32_w]
                                        rfl
                                      refine pure_ (i := 7) (N := some 85) (v := ?_) (a' := ?_) #[true, true, false, false, true, true, true, true, false, false, false, false, false, false, false] rfl rfl (any_of HT_.out (by kernel_rfl)) (fun _ _ _ h => h) (Or.inl ⟨by rfl, ?_⟩) ?_ ?_
                                      rotate_left
                                      · intro w'
                                        go_simp
                                        with_reducible rfl
                                      rotate_left
                                      · simp only [Act.put, List.setIfInBounds_toArray, List.set_cons_zero, List.set_cons_succ, i64_w, i32_w]
                                        rfl
                                      refine pure_ (i := 9) (N := some 87) (v := ?_) (a' := ?_) #[true, true, false, false, true, true, true, true, false, true, false, false, false, false, false] rfl rfl (any_of HT_.out (by kernel_rfl)) (fun _ _ _ h => h) (Or.inl ⟨by rfl, ?_⟩) ?_ ?_
                                      rotate_left
                                      · intro w'
                                        go_simp
                                        with_reducible rfl
                                      rotate_left
                                      · simp only [Act.put, List.setIfInBounds_toArray, List.set_cons_zero, List.set_cons_succ, i64_w, i32_w]
                                        rfl
                                      refine pure_ (i := 10) (N := some 88) (v := ?_) (a' := ?_) #[true, true, false, false, true, true, true, true, false, true, true, false, false, false, false] rfl rfl (any_of HT_.out (by kernel_rfl)) (fun _ _ _ h => h) (Or.inl ⟨by rfl, ?_⟩) ?_ ?_
                                      rotate_left
                                      · intro w'
                                        go_simp
                                        with_reducible rfl
                                      rotate_left
                                      · simp only [Act.put, List.setIfInBounds_toArray, List.set_cons_zero, List.set_cons_succ, i64_w, i32_w]
                                        rfl
                                      refine take_ (i := 2) (N := some 80) (v := ?_) (a' := ?_) #[true, true, true, false, true, true, true, true, false, true, true, false, false, false, false] rfl rfl (take_ofW HT_.out HW_.out (by kernel_rfl)) (fun _ _ _ h => h) (Or.inl ⟨by rfl, ?_⟩) hHeld ?_ ?_
                                      rotate_left
                                      · intro w' s0
                                        go_simp
                                        with_reducible rfl
                                      rotate_left
                                      · simp only [Act.put, List.setIfInBounds_toArray, List.set_cons_zero, List.set_cons_succ, i64_w, i32_w]
                                        rfl
                                      refine pure_ (i := 3) (N := some 81) (v := ?_) (a' := ?_) #[true, true, true, true, true, true, true, true, false, true, true, false, false, false, false] rfl rfl (any_of HT_.out (by kernel_rfl)) (fun _ _ _ h => h) (Or.inl ⟨by rfl, ?_⟩) ?_ ?_
                                      rotate_left
                                      · intro w'
                                        go_simp
                                        with_reducible rfl
                                      rotate_left
                                      · simp only [Act.put, List.setIfInBounds_toArray, List.set_cons_zero, List.set_cons_succ, i64_w, i32_w]
                                        rfl
                                      refine one_ (i := 8) (N := some 86) #[true, true, true, true, true, true, true, true, true, true, true, false, false, false, false] rfl rfl (one_of HT_.out (by kernel_rfl)) (by decide) (fun K hK => ?_)
                                      refine goes_ Try.func31 (by kernel_rfl) rfl #[.slice A43 y437.length c43] (by rfl) rfl rfl (by (try simp only [List.map_toArray, List.map_cons, List.map_nil]); first | done | rfl | (simp only [List.length_drop, List.length_take]; rfl)) ?_
                                      with_reducible refine (bytes_Clone.calls _ _ y437 t442 _ ?side1 ?side2 A33.out).mono ?_
                                      (case side1 => repeat (first | exact (Kd.V_reads' HO441.out).2.2 | (with_reducible refine Kd.C_alloc ?_ _) | (with_reducible refine Kd.C_drewN ?_ _) | (with_reducible refine Kd.C_drew ?_)))
                                      (case side2 => exact (Kd.V_reads' HO441.out).2.1)
                                      rintro e w44 ⟨v443, rfl, ho0, hb⟩
                                      have HS0_ := (hb.cell (World.block_lt_of_cell? _ _ (hHeld))).trans (hHeld)
                                      refine ⟨_, rfl, ?_⟩
                                      have n0_ := Aside0.mk (Kd.V_elder' (by (with_reducible repeat (first | apply Kd.V_alloc | apply Kd.V_drewN | apply Kd.V_drew)); exact HO_0.out) (Kd.R_base ho0) hb)
                                      have n1_ := Aside0.mk (Kd.V_elder' (by (with_reducible repeat (first | apply Kd.V_alloc | apply Kd.V_drewN | apply Kd.V_drew)); exact HO422.out) (Kd.R_base ho0) hb)
                                      have n2_ := Aside0.mk (Kd.N_elder' (by (with_reducible repeat (first | apply Kd.N_alloc | apply Kd.N_drewN | apply Kd.N_drew)); exact HO425.out) (Kd.R_base ho0) hb)
                                      have n3_ := Aside0.mk (Kd.V_elder' (by (with_reducible repeat (first | apply Kd.V_alloc | apply Kd.V_drewN | apply Kd.V_drew)); exact HO431.out) (Kd.R_base ho0) hb)
                                      have n4_ := Aside0.mk (Kd.R_elder' (by (with_reducible repeat (first | apply Kd.R_alloc | apply Kd.R_drewN | apply Kd.R_drew)); exact HO434.out) (Kd.R_base ho0) hb)
                                      have n5_ := Aside0.mk (Kd.V_elder' (by (with_reducible repeat (first | apply Kd.V_alloc | apply Kd.V_drewN | apply Kd.V_drew)); exact HO441.out) (Kd.R_base ho0) hb)
                                      have n6_ := Aside0.mk (Kd.R_lower (Kd.R_new' (Kd.R_newM (M := fun k_ => (w.heap.size ≤ k_)) ho0 (below_size (by repeat (first | (with_reducible first | exact HB.out | apply below_alloc | apply pw_below_drewN | apply below_drew1) | exact HB.out))) (fun k_ h_ => h_)) (Kd.R_lt (by (with_reducible repeat (first | apply Kd.R_alloc | apply Kd.R_drewN | apply Kd.R_drew)); exact HO434.out))) (below_size (by repeat (first | (with_reducible first | exact HB.out | apply below_alloc | apply pw_below_drewN | apply below_drew1) | exact HB.out))))
                                      have n7_ := Aside0.mk (below_step (by repeat (first | (with_reducible first | exact HB.out | apply below_alloc | apply pw_below_drewN | apply below_drew1) | exact HB.out)) hb)
                                      clear HO_0
                                      clear HO422
                                      clear HO425
                                      clear HO431
                                      clear HO434
                                      clear HO441
                                      clear HB
                                      have HO_0 := n0_
                                      have HO422 := n1_
                                      have HO425 := n2_
                                      have HO431 := n3_
                                      have HO434 := n4_
                                      have HO441 := n5_
                                      have HO444 := n6_
                                      have HB := n7_
                                      clear n0_ n1_ n2_ n3_ n4_ n5_ n6_ n7_
                                      (try clear hb)
                                      (try clear hb2)
                                      (try clear hk)
                                      (try clear hi)
                                      (try clear ho0)
                                      refine hK.out _ _ (HS0_) (fun hHeld => ?_)
                                      clear hK K
                                      refine norm_ (a' := ?_) ?_ ?_
                                      rotate_left
                                      · show Act.put _ (some 86) _ = _
                                        simp only [Act.put, List.setIfInBounds_toArray, List.set_cons_zero, List.set_cons_succ, i64_w, i32_w]
                                        rfl
                                      refine pure_ (i := 11) (N := some 2) (v := ?_) (a' := ?_) #[true, true, true, true, true, true, true, true, true, true, true, true, false, false, false] rfl rfl (any_of HT_.out (by kernel_rfl)) (fun _ _ _ h => h) (Or.inl ⟨by rfl, ?_⟩) ?_ ?_
                                      rotate_left
                                      · intro w'
                                        go_simp
                                        with_reducible rfl
                                      rotate_left
                                      · simp only [Act.put, List.setIfInBounds_toArray, List.set_cons_zero, List.set_cons_succ, i64_w, i32_w]
                                        rfl
                                      refine pure_ (i := 12) (N := some 3) (v := ?_) (a' := ?_) #[true, true, true, true, true, true, true, true, true, true, true, true, true, false, false] rfl rfl (any_of HT_.out (by kernel_rfl)) (fun _ _ _ h => h) (Or.inl ⟨by rfl, ?_⟩) ?_ ?_
                                      rotate_left
                                      · intro w'
                                        go_simp
                                        with_reducible rfl
                                      rotate_left
                                      · simp only [Act.put, List.setIfInBounds_toArray, List.set_cons_zero, List.set_cons_succ, i64_w, i32_w]
                                        rfl
                                      refine pure_ (i := 13) (N := some 4) (v := ?_) (a' := ?_) #[true, true, true, true, true, true, true, true, true, true, true, true, true, true, false] rfl rfl (any_of HT_.out (by kernel_rfl)) (fun _ _ _ h => h) (Or.inl ⟨by rfl, ?_⟩) ?_ ?_
                                      rotate_left
                                      · intro w'
                                        go_simp
                                        with_reducible rfl
                                      rotate_left
                                      · simp only [Act.put, List.setIfInBounds_toArray, List.set_cons_zero, List.set_cons_succ, i64_w, i32_w]
                                        rfl
                                      refine pure_ (i := 14) (N := some 5) (v := ?_) (a' := ?_) #[true, true, true, true, true, true, true, true, true, true, true, true, true, true, true] rfl rfl (any_of HT_.out (by kernel_rfl)) (fun _ _ _ h => h) (Or.inl ⟨by rfl, ?_⟩) ?_ ?_
                                      rotate_left
                                      · intro w'
                                        go_simp
                                        with_reducible rfl
                                      rotate_left
                                      · simp only [Act.put, List.setIfInBounds_toArray, List.set_cons_zero, List.set_cons_succ, i64_w, i32_w]
                                        rfl
                                      refine done_ (done_of HT_.out (by kernel_rfl)) ?_
                                      try go_wp2
                                      refine bodyPost_ret (results_list (rs := [.tmp 2, .tmp 3, .tmp 4, .tmp 5]) rfl (by simp) (.tmp (.tmp (.tmp (.tmp .nil))))) rfl ?_
                                      exact ⟨_, by first | rfl | (simp [errW_none, errW_some] <;> rfl) | (simp only [← hji19, ← hji29]; first | rfl | (simp [errW_none, errW_some] <;> rfl)) | (simp [*, errW_none, errW_some] <;> rfl), by (with_reducible repeat (first | apply Kd.R_alloc | apply Kd.R_drewN | apply Kd.R_drew)); exact Kd.R_mono HO444.out (fun _ hk => hk.1.1), by repeat (first | (with_reducible first | exact HB.out | apply below_alloc | apply pw_below_drewN | apply below_drew1) | exact HB.out)⟩
                                    · rw [if_neg c31] at H
                                      exact absurd H (by simp)
                                  · rw [if_neg c30] at H
                                    exact absurd H (by simp)
                                · rw [if_neg c28] at H
                                  exact absurd H (by simp)
                              · replace c27 := Bool.eq_false_iff.mpr c27
                                subst c27
                                have H1 : (some (0, ([] : List Int), 0, 2)) = some (r1, r2, r3, r4) := by rw [if_neg (show ¬ (false = true) by decide)] at H; exact H
                                clear H
                                have H := H1
                                clear H1
                                simp only [Option.some.injEq, Prod.mk.injEq] at H
                                obtain ⟨rfl, rfl, rfl, rfl⟩ := H
                                have q45 : ((ji19) : Int) ≤ ((l0.length : Int) : Int) := of_decide_eq_true (by first | (with_reducible assumption) | assumption)
                                obtain ⟨i045, hi045, _, hsz45, _⟩ := info_parts info5
                                have hroom45 : l0.length ≤ c0 := (Kd.V_reads' HO_0.out).2.1
                                have hC45 : Kd.F (Kd.int .u8) _ _ A0 l0.length l0 := (Kd.V_at (base := w.heap.size) HO_0.out).2.2
                                have hcut45 := cut_to (P := Try.prog) 27 5 .i64 Try.underlying27 hi045 A0 l0.length c0 (ji19) (of_decide_eq_true (by first | (with_reducible assumption) | assumption)) q45 hroom45
                                have hr45 := Kd.F_take (m := ((ji19) : Int).toNat) hC45 (by omega)
                                have hy45 : y418.length = ((ji19) : Int).toNat := (by rw [Ny418.out, List.length_take]; omega)
                                rw [← Ny418.out] at hr45
                                rw [← hy45] at hcut45
                                have HO422 := Aside0.mk (show Kd.V (Kd.int .u8) 5 _ w.heap.size _ (.slice A0 y418.length c0) y418 from Kd.V_mk (by omega) hr45)
                                have HC422 := Aside0.mk (show y418.length ≤ c0 from by omega)
                                clear hr45 hC45 hroom45 hi045 hsz45
                                have KY45 := Aside0.mk hy45
                                clear hy45
                                replace q45 := eq_true q45
                                go_wp2_with (first | ((with_reducible refine gate_dst (N := 57) rfl ?_); refine Kd.N_lit (Kd.slice 5 (Kd.int .u8)) _ 27 ?hg (N' := 57) ?hd (xs := ([y418] : List (List Int))) (inner := [.slice A0 y418.length c0]) (ok := (fun k_ => (P0_ k_ ∨ w.heap.size ≤ k_))) (okp := (fun k_ => (P0_ k_ ∨ w.heap.size ≤ k_))) ?hr ?hp (fun _ hk => hk) ((show ∀ k_, wc.heap.size ≤ k_ → (fun k_ => (P0_ k_ ∨ w.heap.size ≤ k_)) k_ from fun k_ hk => (.inr (Nat.le_trans (below_size (by repeat (first | (with_reducible first | exact HB.out | apply below_alloc | apply pw_below_drewN | apply below_drew1) | exact HB.out))) hk))) _ (Nat.le_refl _)) (Below.refl _ _) (Nat.le_refl _) (by simp) ?_; (case hd => rfl); (case hg => rfl); (case hr => first | (go_simp; done) | (go_simp; rfl)); (case hp => exact (Reps.one (show Kd.FK (Kd.slice 5 (Kd.int .u8)) _ _ y418 [.slice A0 y418.length c0] from (Kd.FK_slice_mk (Kd.V_reads' (e := 0) (base := 0) (Kd.V_mono (e := 0) (base := 0) (ok' := (fun k_ => (P0_ k_ ∨ w.heap.size ≤ k_))) (HO422.out) (fun k_ hk => hk))).2.1 (Kd.V_F (e := 0) (base := 0) (Kd.V_mono (e := 0) (base := 0) (ok' := (fun k_ => (P0_ k_ ∨ w.heap.size ≤ k_))) (HO422.out) (fun k_ hk => hk))))) (Reps.none _ _))); intro v424 w46 ho47 hb hg_ hnew_; clear hg_ hnew_; (first | rw [← Ny423.out] at ho47 | (simp only [Int.reduceToNat] at ho47; rw [← Ny423.out] at ho47)); have n0_ := Aside0.mk (Kd.V_elder' (by (with_reducible repeat (first | apply Kd.V_alloc | apply Kd.V_drewN | apply Kd.V_drew)); exact HO_0.out) (Kd.N_base ho47) hb); have n1_ := Aside0.mk (Kd.V_elder' (by (with_reducible repeat (first | apply Kd.V_alloc | apply Kd.V_drewN | apply Kd.V_drew)); exact HO422.out) (Kd.N_base ho47) hb); have n2_ := Aside0.mk (Kd.N_lower ho47 (below_size (by repeat (first | (with_reducible first | exact HB.out | apply below_alloc | apply pw_below_drewN | apply below_drew1) | exact HB.out)))); have n3_ := Aside0.mk (below_step (by repeat (first | (with_reducible first | exact HB.out | apply below_alloc | apply pw_below_drewN | apply below_drew1) | exact HB.out)) hb); clear HO_0; clear HO422; clear HB; have HO_0 := n0_; have HO422 := n1_; have HO425 := n2_; have HB := n3_; clear n0_ n1_ n2_ n3_; clear hb ho47; obtain ⟨Ao48, co48, eo48⟩ := Kd.N_slice HO425.out; subst eo48) | ((with_reducible refine gate_callee (f := 32) rfl ?_); refine goesL_ (some 58) rfl rfl Try.func32 (by kernel_rfl) rfl #[.slice Ao48 y423.length co48] rfl (by (try simp only [List.map_toArray, List.map_cons, List.map_nil]); first | done | rfl | (simp only [List.length_drop, List.length_take]; rfl)) ?_; (with_reducible refine (sum_Of.calls kj12 _ _ y423 t426 _ ?side1 ?side2 A22.out).mono ?_); (case side1 => repeat (first | exact (Kd.N_reads' HO425.out).2.2 | (with_reducible refine Kd.C_alloc ?_ _) | (with_reducible refine Kd.C_drewN ?_ _) | (with_reducible refine Kd.C_drew ?_))); (case side2 => exact (Kd.N_reads' HO425.out).2.1); rintro e w' ⟨rfl, ⟨nd, rfl⟩⟩; refine ⟨_, rfl, ?_⟩; have q49 : ((wrap64 ((ji19) + 4)) : Int) ≤ ((l0.length : Int) : Int) := of_decide_eq_true (by first | (with_reducible assumption) | assumption); obtain ⟨i049, hi049, _, hsz49, _⟩ := info_parts info5; have hroom49 : l0.length ≤ c0 := (Kd.V_reads' HO_0.out).2.1; have hC49 : Kd.F (Kd.int .u8) _ _ A0 l0.length l0 := (Kd.V_at (base := w.heap.size) HO_0.out).2.2; have ql49 : ((ji19) : Int) ≤ ((wrap64 ((ji19) + 4)) : Int) := of_decide_eq_true (by first | (with_reducible assumption) | assumption); have q049 : (0 : Int) ≤ ((ji19) : Int) := of_decide_eq_true (by first | (with_reducible assumption) | assumption); have hcut49 := cut_mid (P := Try.prog) 27 5 .i64 .i64 Try.underlying27 hi049 1 hsz49 A0 l0.length c0 (ji19) (wrap64 ((ji19) + 4)) q049 ql49 q49 hroom49; have hr49 := Kd.F_mid (lo := ((ji19) : Int).toNat) (hi := ((wrap64 ((ji19) + 4)) : Int).toNat) (c := c0) hC49 (by omega) (by omega) hroom49; obtain ⟨A49, hA49⟩ : ∃ A1, A1 = (if c0 = ((ji19) : Int).toNat then A0 else (A0 : Option Addr).map (·.add (((ji19) : Int).toNat * 1))) := ⟨_, rfl⟩; obtain ⟨c49, hc49⟩ : ∃ c1, c1 = c0 - ((ji19) : Int).toNat := ⟨_, rfl⟩; have hy49 : y427.length = ((wrap64 ((ji19) + 4)) : Int).toNat - ((ji19) : Int).toNat := (by rw [Ny427.out, List.length_drop, List.length_take] <;> omega); rw [show ((l0).take ((wrap64 ((ji19) + 4)) : Int).toNat).drop ((ji19) : Int).toNat = y427 from Ny427.out.symm] at hr49; replace hr49 : Kd.F (Kd.int .u8) _ _ A49 y427.length y427 := (by rw [hA49]; exact hr49); rw [← hy49, ← hA49, ← hc49] at hcut49; have HO431 := Aside0.mk (show Kd.V (Kd.int .u8) 5 _ w.heap.size _ (.slice A49 y427.length c49) y427 from Kd.V_mk (by rw [hy49, hc49]; exact Nat.sub_le_sub_right (Nat.le_trans (by omega) hroom49) _) hr49); have HC431 := Aside0.mk (show y427.length ≤ c49 from by rw [hy49, hc49]; exact Nat.sub_le_sub_right (Nat.le_trans (by omega) hroom49) _); have KC49 := Aside0.mk hc49; clear hr49 hC49 hroom49 hi049 hsz49 hc49; have KY49 := Aside0.mk hy49; have KA49 := Aside0.mk hA49; clear hy49 hA49; replace q49 := eq_true q49) | ((with_reducible refine gate_dst (N := 75) rfl ?_); refine Kd.R_lit (Kd.int .u8) _ 5 ?hg (N := 75) ?hd (xs := ([(t426 / 16777216) % 256, (t426 / 65536) % 256, (t426 / 256) % 256, (t426) % 256] : List Int)) (inner := [.int .u8 ((t426 / 16777216) % 256), .int .u8 ((t426 / 65536) % 256), .int .u8 ((t426 / 256) % 256), .int .u8 ((t426) % 256)]) (ok := fun _ => True) (okp := fun _ => True) ?hr ?hp (fun _ hk => hk) trivial (Below.refl _ _) (Nat.le_refl _) (by simp) ?_; (case hd => rfl); (case hg => rfl); (case hr => first | (go_simp; done) | (go_simp; rfl)); (case hp => exact (Reps.one (show Kd.M (Kd.int .u8) _ _ _ ((t426 / 16777216) % 256) [.int .u8 ((t426 / 16777216) % 256)] from rfl) (Reps.one (show Kd.M (Kd.int .u8) _ _ _ ((t426 / 65536) % 256) [.int .u8 ((t426 / 65536) % 256)] from rfl) (Reps.one (show Kd.M (Kd.int .u8) _ _ _ ((t426 / 256) % 256) [.int .u8 ((t426 / 256) % 256)] from rfl) (Reps.one (show Kd.M (Kd.int .u8) _ _ _ ((t426) % 256) [.int .u8 ((t426) % 256)] from rfl) (Reps.none _ _)))))); intro v433 w50 ho51 hb hg_ hnew_; clear hg_ hnew_; (first | rw [← Ny432.out] at ho51 | (simp only [Int.reduceToNat] at ho51; rw [← Ny432.out] at ho51)); have n0_ := Aside0.mk (Kd.V_elder' (by (with_reducible repeat (first | apply Kd.V_alloc | apply Kd.V_drewN | apply Kd.V_drew)); exact HO_0.out) (Kd.R_base ho51) hb); have n1_ := Aside0.mk (Kd.V_elder' (by (with_reducible repeat (first | apply Kd.V_alloc | apply Kd.V_drewN | apply Kd.V_drew)); exact HO422.out) (Kd.R_base ho51) hb); have n2_ := Aside0.mk (Kd.N_elder' (by (with_reducible repeat (first | apply Kd.N_alloc | apply Kd.N_drewN | apply Kd.N_drew)); exact HO425.out) (Kd.R_base ho51) hb); have n3_ := Aside0.mk (Kd.V_elder' (by (with_reducible repeat (first | apply Kd.V_alloc | apply Kd.V_drewN | apply Kd.V_drew)); exact HO431.out) (Kd.R_base ho51) hb); have n4_ := Aside0.mk (Kd.R_lower (Kd.R_newM (M := fun k_ => (w.heap.size ≤ k_)) ho51 (below_size (by repeat (first | (with_reducible first | exact HB.out | apply below_alloc | apply pw_below_drewN | apply below_drew1) | exact HB.out))) (fun k_ h_ => h_)) (below_size (by repeat (first | (with_reducible first | exact HB.out | apply below_alloc | apply pw_below_drewN | apply below_drew1) | exact HB.out)))); have n5_ := Aside0.mk (below_step (by repeat (first | (with_reducible first | exact HB.out | apply below_alloc | apply pw_below_drewN | apply below_drew1) | exact HB.out)) hb); clear HO_0; clear HO422; clear HO425; clear HO431; clear HB; have HO_0 := n0_; have HO422 := n1_; have HO425 := n2_; have HO431 := n3_; have HO434 := n4_; have HB := n5_; clear n0_ n1_ n2_ n3_ n4_ n5_; clear hb ho51; obtain ⟨Ao52, co52, eo52⟩ := Kd.R_slice HO434.out; subst eo52) | ((with_reducible refine gate_callee (f := 35) rfl ?_); refine goesL_ (some 76) rfl rfl Try.func35 (by kernel_rfl) rfl #[.slice A49 y427.length c49, .slice Ao52 y432.length co52] rfl (by (try simp only [List.map_toArray, List.map_cons, List.map_nil]); first | done | rfl | (simp only [List.length_drop, List.length_take]; rfl)) ?_; (with_reducible refine (bytes_Equal.calls _ _ y427 _ _ y432 false _ ?side1 ?side2 ?side3 ?side4 A26.out).mono ?_); (case side1 => repeat (first | exact (Kd.V_reads' HO431.out).2.2 | (with_reducible refine Kd.C_alloc ?_ _) | (with_reducible refine Kd.C_drewN ?_ _) | (with_reducible refine Kd.C_drew ?_))); (case side2 => exact (Kd.V_reads' HO431.out).2.1); (case side3 => repeat (first | exact (Kd.R_reads' HO434.out).2.2 | (with_reducible refine Kd.C_alloc ?_ _) | (with_reducible refine Kd.C_drewN ?_ _) | (with_reducible refine Kd.C_drew ?_))); (case side4 => exact (Kd.R_reads' HO434.out).2.1); rintro e w' ⟨rfl, ⟨nd, rfl⟩⟩; refine ⟨_, rfl, ?_⟩))
                                refine bodyPost_ret (results_list (rs := [.tmp 2, .tmp 3, .tmp 4, .tmp 5]) rfl (by simp) (.tmp (.tmp (.tmp (.tmp .nil))))) rfl ?_
                                exact ⟨_, by first | rfl | (simp [errW_none, errW_some] <;> rfl) | (simp only [← hji19]; first | rfl | (simp [errW_none, errW_some] <;> rfl)) | (simp [*, errW_none, errW_some] <;> rfl), by first | exact Kd.R_nil _ _ _ _ _ | exact Kd.N_nil _ _ _ _ _ | exact Kd.V_nil _ _ _ _ _ | exact Kd.Q_nil _ _ _ _ _ | exact Kd.S_nil _ _ _ _ _, by repeat (first | (with_reducible first | exact HB.out | apply below_alloc | apply pw_below_drewN | apply below_drew1) | exact HB.out)⟩
                            · rw [if_neg c25] at H
                              exact absurd H (by simp)
                          · rw [if_neg c24] at H
                            exact absurd H (by simp)
                        · rw [if_neg c21] at H
                          exact absurd H (by simp)
                      · rw [if_neg c20] at H
                        exact absurd H (by simp)
          · rw [if_neg c7] at H
            exact absurd H (by simp)

end Go.Proofs.Ytgobbmhkmnaegaa.PWire
