/- a part -/
import Derived.Test.YtgocnchjpecafaaPEpx0
import Derived.Test.YtgocnchjpecafaaPEpx3
import Derived.Test.YtgocnchjpecafaaPEpx4
import Derived.Test.YtgocnchjpecafaaPEpx7
import Derived.Test.YtgocnchjpecafaaPEpx8
import Derived.Test.YtgocnchjpecafaaPEpx9
import Derived.Test.YtgocnchjpecafaaPEpx10
import Derived.Test.YtgocnchjpecafaaPEpx12
import Derived.Test.YtgocnchjpecafaaPEpx14
import Derived.Test.YtgocnchjpecafaaPEpx15
import Derived.Test.YtgocnchjpecafaaPEpx16
import Derived.Test.YtgocnchjpecafaaPEpx17
namespace Go.Proofs.Ytgocnchjpecafaa.PEp
open Go.RowKit Go.Proofs.YtgocnchjpecafaaW.PrintWords Go.Proofs.YtgocnchjpecafaaW.PrintLast Go.Proofs.YtgocnchjpecafaaW.PrintMore
attribute [local go_sem] max2_int min2_int max_two min_two max_three min_three max_four min_four
set_option linter.unusedVariables false
set_option linter.unusedSimpArgs false
theorem z18_0 {P : Prop} (h : P := by repeat (first | (with_reducible first | exact HB.out | apply below_alloc | apply pw_below_drewN | apply below_drew1 | refine below_set ?_ GE356.out | refine below_set ?_ GE357.out) | exact HB.out)) : P := h
theorem z18_1 {P : Prop} (h : P := by (with_reducible repeat (first | refine blk_drewN ?_ _ | refine blk_drew ?_ | refine blk_alloc ?_ _)); exact BK356.out) : P := h
theorem z18_2 {P : Prop} (h : P := by simp only [Act.put, List.setIfInBounds_toArray, List.set_cons_zero, List.set_cons_succ, i64_w, i32_w]; rfl) : P := h
theorem z18_3 {P : Prop} (h : P := by (with_reducible repeat (first | refine blk_drewN ?_ _ | refine blk_drew ?_ | refine blk_alloc ?_ _)); exact BK357.out) : P := h
theorem z18_4 {P : Prop} (h : P := by exact (Reps.c4 (show Kd.FK k30 _ _ (⟨(⟨a0_0, a0_1⟩ : S25), l0_2, l0_3⟩ : S30) [.int .i64 a0_0, .int .i64 a0_1, .slice A0_2 l0_2.length c0_2, .slice A0_3 l0_3.length c0_3] from (k30_mkF _ _ (⟨(⟨a0_0, a0_1⟩ : S25), l0_2, l0_3⟩ : S30) (Kd.V_reads' (e := 0) (base := 0) (Kd.V_mono (e := 0) (base := 0) (ok' := (fun k_ => ((P0_2_ k_ ∨ P0_3_ k_ ∨ P1_2_ k_ ∨ P1_3_ k_) ∨ w.heap.size ≤ k_) ∧ k_ ≠ gb356 ∧ k_ ≠ gb357)) (HO0_2.out) (fun k_ hk => ⟨hk.1.1, ⟨hk.1.2, hk.2⟩⟩))).2.1 (Kd.V_F (e := 0) (base := 0) (Kd.V_mono (e := 0) (base := 0) (ok' := (fun k_ => ((P0_2_ k_ ∨ P0_3_ k_ ∨ P1_2_ k_ ∨ P1_3_ k_) ∨ w.heap.size ≤ k_) ∧ k_ ≠ gb356 ∧ k_ ≠ gb357)) (HO0_2.out) (fun k_ hk => ⟨hk.1.1, ⟨hk.1.2, hk.2⟩⟩))) (Kd.V_reads' (e := 0) (base := 0) (Kd.V_mono (e := 0) (base := 0) (ok' := (fun k_ => ((P0_2_ k_ ∨ P0_3_ k_ ∨ P1_2_ k_ ∨ P1_3_ k_) ∨ w.heap.size ≤ k_) ∧ k_ ≠ gb356 ∧ k_ ≠ gb357)) (HO0_3.out) (fun k_ hk => ⟨hk.1.1, ⟨hk.1.2, hk.2⟩⟩))).2.1 (Kd.V_F (e := 0) (base := 0) (Kd.V_mono (e := 0) (base := 0) (ok' := (fun k_ => ((P0_2_ k_ ∨ P0_3_ k_ ∨ P1_2_ k_ ∨ P1_3_ k_) ∨ w.heap.size ≤ k_) ∧ k_ ≠ gb356 ∧ k_ ≠ gb357)) (HO0_3.out) (fun k_ hk => ⟨hk.1.1, ⟨hk.1.2, hk.2⟩⟩))))) (Reps.c4 (show Kd.FK k30 _ _ (⟨(⟨a1_0, a1_1⟩ : S25), l1_2, l1_3⟩ : S30) [.int .i64 a1_0, .int .i64 a1_1, .slice A1_2 l1_2.length c1_2, .slice A1_3 l1_3.length c1_3] from (k30_mkF _ _ (⟨(⟨a1_0, a1_1⟩ : S25), l1_2, l1_3⟩ : S30) (Kd.V_reads' (e := 0) (base := 0) (Kd.V_mono (e := 0) (base := 0) (ok' := (fun k_ => ((P0_2_ k_ ∨ P0_3_ k_ ∨ P1_2_ k_ ∨ P1_3_ k_) ∨ w.heap.size ≤ k_) ∧ k_ ≠ gb356 ∧ k_ ≠ gb357)) (HO1_2.out) (fun k_ hk => ⟨hk.1.1, ⟨hk.1.2, hk.2⟩⟩))).2.1 (Kd.V_F (e := 0) (base := 0) (Kd.V_mono (e := 0) (base := 0) (ok' := (fun k_ => ((P0_2_ k_ ∨ P0_3_ k_ ∨ P1_2_ k_ ∨ P1_3_ k_) ∨ w.heap.size ≤ k_) ∧ k_ ≠ gb356 ∧ k_ ≠ gb357)) (HO1_2.out) (fun k_ hk => ⟨hk.1.1, ⟨hk.1.2, hk.2⟩⟩))) (Kd.V_reads' (e := 0) (base := 0) (Kd.V_mono (e := 0) (base := 0) (ok' := (fun k_ => ((P0_2_ k_ ∨ P0_3_ k_ ∨ P1_2_ k_ ∨ P1_3_ k_) ∨ w.heap.size ≤ k_) ∧ k_ ≠ gb356 ∧ k_ ≠ gb357)) (HO1_3.out) (fun k_ hk => ⟨hk.1.1, ⟨hk.1.2, hk.2⟩⟩))).2.1 (Kd.V_F (e := 0) (base := 0) (Kd.V_mono (e := 0) (base := 0) (ok' := (fun k_ => ((P0_2_ k_ ∨ P0_3_ k_ ∨ P1_2_ k_ ∨ P1_3_ k_) ∨ w.heap.size ≤ k_) ∧ k_ ≠ gb356 ∧ k_ ≠ gb357)) (HO1_3.out) (fun k_ hk => ⟨hk.1.1, ⟨hk.1.2, hk.2⟩⟩))))) (Reps.none _ _)))) : P := h
theorem z18_5 {P : Prop} (h : P := by (try simp only [List.map_toArray, List.map_cons, List.map_nil]); first | done | rfl | (simp only [List.length_drop, List.length_take]; rfl)) : P := h
theorem z18_6 {P : Prop} (h : P := by repeat (first | exact (Kd.V_reads' HO_357002.out).2.2 | (with_reducible refine Kd.C_alloc ?_ _) | (with_reducible refine Kd.C_drewN ?_ _) | (with_reducible refine Kd.C_drew ?_))) : P := h
theorem z18_7 {P : Prop} (h : P := by repeat (first | exact (Kd.V_reads' HO_357003.out).2.2 | (with_reducible refine Kd.C_alloc ?_ _) | (with_reducible refine Kd.C_drewN ?_ _) | (with_reducible refine Kd.C_drew ?_))) : P := h
theorem z18_8 {P : Prop} (h : P := by (with_reducible repeat (first | apply Kd.V_alloc | apply Kd.V_drewN | apply Kd.V_drew)); exact HO_357002.out) : P := h
theorem z18_9 {P : Prop} (h : P := by (with_reducible repeat (first | apply Kd.V_alloc | apply Kd.V_drewN | apply Kd.V_drew)); exact HO_357003.out) : P := h
theorem z18_10 {P : Prop} (h : P := by (with_reducible repeat (first | apply Kd.V_alloc | apply Kd.V_drewN | apply Kd.V_drew)); exact HO_358002.out) : P := h
theorem z18_11 {P : Prop} (h : P := by (with_reducible repeat (first | apply Kd.V_alloc | apply Kd.V_drewN | apply Kd.V_drew)); exact HO_358003.out) : P := h
theorem z18_12 {P : Prop} (h : P := by repeat (first | (with_reducible first | exact HB.out | apply below_alloc | apply pw_below_drewN | apply below_drew1 | refine below_set ?_ GE356.out | refine below_set ?_ GE357.out | refine below_set ?_ GE386.out) | exact HB.out)) : P := h
theorem z18_13 {P : Prop} (h : P := by (with_reducible repeat (first | apply Kd.R_alloc | apply Kd.R_drewN | apply Kd.R_drew)); exact HO_6.out) : P := h
theorem z18_14 {P : Prop} (h : P := by repeat (first | (with_reducible first | exact HB.out | apply below_alloc | apply pw_below_drewN | apply below_drew1 | refine below_set ?_ GE356.out) | exact HB.out)) : P := h
theorem z18_15 {P : Prop} (h : P := by repeat (first | (with_reducible first | exact HB.out | apply below_alloc | apply pw_below_drewN | apply below_drew1) | exact HB.out)) : P := h
theorem z18_16 {P : Prop} (h : P := by (with_reducible repeat (first | apply Kd.V_alloc | apply Kd.V_drewN | apply Kd.V_drew)); exact HO0_2.out) : P := h
theorem z18_17 {P : Prop} (h : P := by (with_reducible repeat (first | apply Kd.V_alloc | apply Kd.V_drewN | apply Kd.V_drew)); exact HO0_3.out) : P := h
theorem z18_18 {P : Prop} (h : P := by (with_reducible repeat (first | apply Kd.V_alloc | apply Kd.V_drewN | apply Kd.V_drew)); exact HO1_2.out) : P := h
theorem z18_19 {P : Prop} (h : P := by (with_reducible repeat (first | apply Kd.V_alloc | apply Kd.V_drewN | apply Kd.V_drew)); exact HO1_3.out) : P := h
theorem z18_20 {P : Prop} (h : P := by (with_reducible repeat (first | apply Kd.V_alloc | apply Kd.V_drewN | apply Kd.V_drew)); exact (Kd.V_mono (Kd.V_far (p := ⟨gb386, 3, none⟩) (Kd.V_far (p := ⟨gb386, 2, none⟩) (Kd.V_far (p := ⟨gb386, 1, none⟩) (Kd.V_far (p := ⟨gb386, 0, none⟩) (Kd.V_mono HO_357002.out (fun k_ hk => (⟨hk, hk.2⟩ : _ ∧ k_ ≠ gb386))) (fun _ hk => hk.2) (.int .i64 t377)) (fun _ hk => hk.2) (.int .i64 t378)) (fun _ hk => hk.2) (.slice Ao67 t379.length co67)) (fun _ hk => hk.2) (.slice Ao68 t382.length co68)) (fun _ h_ => h_.1))) : P := h
theorem z18_21 {P : Prop} (h : P := by (with_reducible repeat (first | apply Kd.V_alloc | apply Kd.V_drewN | apply Kd.V_drew)); exact (Kd.V_mono (Kd.V_far (p := ⟨gb386, 3, none⟩) (Kd.V_far (p := ⟨gb386, 2, none⟩) (Kd.V_far (p := ⟨gb386, 1, none⟩) (Kd.V_far (p := ⟨gb386, 0, none⟩) (Kd.V_mono HO_357003.out (fun k_ hk => (⟨hk, hk.2⟩ : _ ∧ k_ ≠ gb386))) (fun _ hk => hk.2) (.int .i64 t377)) (fun _ hk => hk.2) (.int .i64 t378)) (fun _ hk => hk.2) (.slice Ao67 t379.length co67)) (fun _ hk => hk.2) (.slice Ao68 t382.length co68)) (fun _ h_ => h_.1))) : P := h
theorem z18_22 {P : Prop} (h : P := by repeat (first | exact (Kd.V_reads' HO_358002.out).2.2 | (with_reducible refine Kd.C_alloc ?_ _) | (with_reducible refine Kd.C_drewN ?_ _) | (with_reducible refine Kd.C_drew ?_))) : P := h
theorem z18_23 {P : Prop} (h : P := by repeat (first | exact (Kd.V_reads' HO_358003.out).2.2 | (with_reducible refine Kd.C_alloc ?_ _) | (with_reducible refine Kd.C_drewN ?_ _) | (with_reducible refine Kd.C_drew ?_))) : P := h
theorem z18_24 {P : Prop} (h : P := by (with_reducible repeat (first | apply Kd.R_alloc | apply Kd.R_drewN | apply Kd.R_drew)); exact HO369.out) : P := h
theorem z18_25 {P : Prop} (h : P := by exact (Kd.V_reads' HO_357002.out).2.1) : P := h
theorem z18_26 {P : Prop} (h : P := by exact (Kd.V_reads' HO_357003.out).2.1) : P := h
theorem z18_27 {P : Prop} (h : P := by kernel_rfl) : P := h
theorem z18_28 {P : Prop} (h : P := by (with_reducible repeat (first | apply Kd.R_alloc | apply Kd.R_drewN | apply Kd.R_drew)); exact HO381.out) : P := h
theorem z18_29 {P : Prop} (h : P := by (with_reducible repeat (first | apply Kd.R_alloc | apply Kd.R_drewN | apply Kd.R_drew)); exact HO384.out) : P := h
theorem z18_30 {P : Prop} (h : P := by (with_reducible repeat (first | refine blk_drewN ?_ _ | refine blk_drew ?_ | refine blk_alloc ?_ _)); exact BK386.out) : P := h
theorem z18_31 {P : Prop} (h : P := by first | (go_simp; done) | (go_simp; rfl)) : P := h
theorem z18_32 {P : Prop} (h : P := by repeat (first | exact (Kd.N_reads' HO360.out).2.2 | (with_reducible refine Kd.C_alloc ?_ _) | (with_reducible refine Kd.C_drewN ?_ _) | (with_reducible refine Kd.C_drew ?_))) : P := h
theorem z18_33 {P : Prop} (h : P := by repeat (first | exact (Kd.R_reads' HO_6.out).2.2 | (with_reducible refine Kd.C_alloc ?_ _) | (with_reducible refine Kd.C_drewN ?_ _) | (with_reducible refine Kd.C_drew ?_))) : P := h
mutual
def hucksterlaw05_EventPuts.l0 : Nat → Int → Int → Int → List Int → List (S48) → Int → Int → List Int → List (S48) → Option (Bool)
 | 0, _, _, _, _, _, _, _, _, _ => none
 | k + 1, x5, x357000, x357001, x357002, x357003, x358000, x358001, x358002, x358003 => if x5 < (x357003.length : Int) then (if 0 ≤ x5 then ((event_CheckEffect.f k ((rd_T48 x357003 x5).f0) ((rd_T48 x357003 x5).f1) ((rd_T48 x357003 x5).f2) ((rd_T48 x357003 x5).f3) ((rd_T48 x357003 x5).f4) ((rd_T48 x357003 x5).f5)).bind fun t364 => ((hucksterref05_MayEffect.f k ((rd_T48 x357003 x5).f0) ((rd_T48 x357003 x5).f1) ((rd_T48 x357003 x5).f2) ((rd_T48 x357003 x5).f3) ((rd_T48 x357003 x5).f4) ((rd_T48 x357003 x5).f5)).bind fun t366 => (if ((t364 == 0) != t366) = true then (some false) else (hucksterlaw05_EventPuts.l0 k (wrap64 (x5 + 1)) x357000 x357001 x357002 x357003 x358000 x358001 x358002 x358003)))) else (none)) else ((event_Put.f k x357000 x357001 x357002 x357003).bind fun bt367 => ((event_Same.f k x357000 x357001 x357002 x357003 x358000 x358001 x358002 x358003).bind fun t371 => ((hucksterref05_Same.f k x357000 x357001 x357002 x357003 x358000 x358001 x358002 x358003).bind fun t372 => (if (t371 != t372) = true then (hucksterlaw05_EventPuts.j1 k bt367.1 bt367.2 true x357000 x357001 x357002 x357003) else ((event_Same.f k x357000 x357001 x357002 x357003 x357000 x357001 x357002 x357003).bind fun t373 => (hucksterlaw05_EventPuts.j1 k bt367.1 bt367.2 (!t373) x357000 x357001 x357002 x357003))))))
def hucksterlaw05_EventPuts.j1 : Nat → List Int → Int → Bool → Int → Int → List Int → List (S48) → Option (Bool)
 | 0, _, _, _, _, _, _, _ => none
 | k + 1, x6, x7, x54, x357000, x357001, x357002, x357003 => if x54 = true then (some false) else ((hucksterref05_May.f k x357000 x357001 x357002 x357003).bind fun t374 => (if t374 = true then ((event_Get.f k x6).bind fun bt377 => ((event_Check.f k x357000 x357001 x357002 x357003).bind fun t387 => (if t387 = 0 then (if x7 = 0 then ((hucksterref05_Put.f k x357000 x357001 x357002 x357003).bind fun t388 => ((hucksterref02_Bytes.f k x6 t388).bind fun t391 => (if t391 = true then (if bt377.2.2.2.2 = 0 then ((hucksterref05_Same.f k bt377.1 bt377.2.1 bt377.2.2.1 bt377.2.2.2.1 x357000 x357001 x357002 x357003).bind fun t392 => (if t392 = true then ((hucksterlaw05_awake.f k).bind fun t393 => (some t393)) else (some false))) else (some false)) else (some false)))) else (some false)) else (some false)))) else ((event_Check.f k x357000 x357001 x357002 x357003).bind fun t375 => (if t375 = 1 then (if x7 = 1 then (if (x6.length : Int) = 0 then ((hucksterlaw05_awake.f k).bind fun t376 => (some t376)) else (some false)) else (some false)) else (some false)))))
end
def hucksterlaw05_EventPuts.f (k : Nat) (a0_0 : Int) (a0_1 : Int) (l0_2 : List Int) (l0_3 : List (S48)) (a1_0 : Int) (a1_1 : Int) (l1_2 : List Int) (l1_3 : List (S48)) : Option (Bool) := (hucksterlaw05_Light.f k (([(⟨(⟨a0_0, a0_1⟩ : S25), l0_2, l0_3⟩ : S30), (⟨(⟨a1_0, a1_1⟩ : S25), l1_2, l1_3⟩ : S30)] : List (S30)))).bind fun t361 => (if t361 = true then (hucksterlaw05_EventPuts.l0 k 0 a0_0 a0_1 l0_2 l0_3 a1_0 a1_1 l1_2 l1_3) else ((hucksterlaw05_awake.f k).bind fun t362 => (some t362)))
def hucksterlaw05_EventPuts.T6 : Bool × List (List Nat × List Nat) := (true, [([], []), ([0], [0]), ([], []), ([1, 2], [1, 2]), ([3], [3]), ([4], [4]), ([5], [5]), ([], []), ([7], [7]), ([], []), ([8, 9], [8, 9]), ([10], [10]), ([11, 5], [11]), ([6, 12], [6, 12])])
def hucksterlaw05_EventPuts.B6 : List Nat := [0, 1, 0, 7, 15, 31, 63, 0, 128, 0, 896, 1920, 4031, 8191]
theorem hucksterlaw05_EventPuts.tab6 : rtab .any (opsOf Try.f6 6) = hucksterlaw05_EventPuts.T6 := by kernel_rfl
theorem hucksterlaw05_EventPuts.bits6 : waitsOk hucksterlaw05_EventPuts.T6.2 hucksterlaw05_EventPuts.B6 = true := by kernel_rfl
def hucksterlaw05_EventPuts.T9 : Bool × List (List Nat × List Nat) := (true, [([], []), ([], []), ([0, 1], [0, 1]), ([], []), ([], []), ([3, 4, 2], [3, 4]), ([2, 5], [2, 5]), ([6, 5], [6]), ([7], [7]), ([7], [7]), ([8, 9, 7, 7], [7, 8, 9]), ([10, 7], [7, 10]), ([7, 11], [7, 11])])
def hucksterlaw05_EventPuts.B9 : List Nat := [0, 0, 3, 0, 0, 31, 63, 127, 255, 255, 1023, 2047, 4095]
theorem hucksterlaw05_EventPuts.tab9 : rtab .any (opsOf Try.f6 9) = hucksterlaw05_EventPuts.T9 := by kernel_rfl
theorem hucksterlaw05_EventPuts.bits9 : waitsOk hucksterlaw05_EventPuts.T9.2 hucksterlaw05_EventPuts.B9 = true := by kernel_rfl
set_option maxHeartbeats 8000000 in
set_option maxRecDepth 100000 in
theorem hucksterlaw05_EventPuts.calls (k : Nat) (a0_0 : Int) (a0_1 : Int) (P0_2_ : Nat → Prop) (A0_2 : Option Addr) (c0_2 : Nat) (l0_2 : List Int) (P0_3_ : Nat → Prop) (A0_3 : Option Addr) (c0_3 : Nat) (l0_3 : List (S48)) (a1_0 : Int) (a1_1 : Int) (P1_2_ : Nat → Prop) (A1_2 : Option Addr) (c1_2 : Nat) (l1_2 : List Int) (P1_3_ : Nat → Prop) (A1_3 : Option Addr) (c1_3 : Nat) (l1_3 : List (S48)) (r : Bool) (w : World) (hs0_2 : Kd.V (Kd.int .i64) 3 w w.heap.size (fun k_ => P0_2_ k_) (.slice A0_2 l0_2.length c0_2) l0_2) (hs0_3 : Kd.V k48 48 w w.heap.size (fun k_ => P0_3_ k_) (.slice A0_3 l0_3.length c0_3) l0_3) (hs1_2 : Kd.V (Kd.int .i64) 3 w w.heap.size (fun k_ => P1_2_ k_) (.slice A1_2 l1_2.length c1_2) l1_2) (hs1_3 : Kd.V k48 48 w w.heap.size (fun k_ => P1_3_ k_) (.slice A1_3 l1_3.length c1_3) l1_3) (h : hucksterlaw05_EventPuts.f k a0_0 a0_1 l0_2 l0_3 a1_0 a1_1 l1_2 l1_3 = some r) (hrt_ : r = true) :
  Calls Try.prog 6 #[.agg #[.int .i64 a0_0, .int .i64 a0_1, .slice A0_2 l0_2.length c0_2, .slice A0_3 l0_3.length c0_3], .agg #[.int .i64 a1_0, .int .i64 a1_1, .slice A1_2 l1_2.length c1_2, .slice A1_3 l1_3.length c1_3]] w fun e w' => e = .returned (.bool r) ∧ Below w.heap.size w w' := by
 have hu30 := Try.underlying30
 have hu48 := Try.underlying48
 have HO0_2 := Aside0.mk (show Kd.V (Kd.int .i64) 3 w w.heap.size (fun k_ => ((P0_2_ k_ ∨ P0_3_ k_ ∨ P1_2_ k_ ∨ P1_3_ k_) ∨ w.heap.size ≤ k_)) (.slice A0_2 l0_2.length c0_2) l0_2 from Kd.V_mono hs0_2 (fun k_ hk => .inl (.inl hk)))
 have HO0_3 := Aside0.mk (show Kd.V k48 48 w w.heap.size (fun k_ => ((P0_2_ k_ ∨ P0_3_ k_ ∨ P1_2_ k_ ∨ P1_3_ k_) ∨ w.heap.size ≤ k_)) (.slice A0_3 l0_3.length c0_3) l0_3 from Kd.V_mono hs0_3 (fun k_ hk => .inl (.inr (.inl hk))))
 have HO1_2 := Aside0.mk (show Kd.V (Kd.int .i64) 3 w w.heap.size (fun k_ => ((P0_2_ k_ ∨ P0_3_ k_ ∨ P1_2_ k_ ∨ P1_3_ k_) ∨ w.heap.size ≤ k_)) (.slice A1_2 l1_2.length c1_2) l1_2 from Kd.V_mono hs1_2 (fun k_ hk => .inl (.inr (.inr (.inl hk)))))
 have HO1_3 := Aside0.mk (show Kd.V k48 48 w w.heap.size (fun k_ => ((P0_2_ k_ ∨ P0_3_ k_ ∨ P1_2_ k_ ∨ P1_3_ k_) ∨ w.heap.size ≤ k_)) (.slice A1_3 l1_3.length c1_3) l1_3 from Kd.V_mono hs1_3 (fun k_ hk => .inl (.inr (.inr (.inr hk)))))
 have HB := Aside0.mk (Below.refl w.heap.size w)
 have HRT_ := Aside0.mk hrt_
 clear hrt_
 have H : ((hucksterlaw05_Light.f k (([(⟨(⟨a0_0, a0_1⟩ : S25), l0_2, l0_3⟩ : S30), (⟨(⟨a1_0, a1_1⟩ : S25), l1_2, l1_3⟩ : S30)] : List (S30)))).bind fun t361 => (if t361 = true then (hucksterlaw05_EventPuts.l0 k 0 a0_0 a0_1 l0_2 l0_3 a1_0 a1_1 l1_2 l1_3) else ((hucksterlaw05_awake.f k).bind fun t362 => (some t362)))) = some r := h
 clear h
 obtain ⟨y358, hy358⟩ : ∃ y_ : List (S30), y_ = (([(⟨(⟨a0_0, a0_1⟩ : S25), l0_2, l0_3⟩ : S30), (⟨(⟨a1_0, a1_1⟩ : S25), l1_2, l1_3⟩ : S30)] : List (S30))) := ⟨_, rfl⟩
 replace H : ((hucksterlaw05_Light.f k y358).bind fun t361 => (if t361 = true then (hucksterlaw05_EventPuts.l0 k 0 a0_0 a0_1 l0_2 l0_3 a1_0 a1_1 l1_2 l1_3) else ((hucksterlaw05_awake.f k).bind fun t362 => (some t362)))) = some r := by first | (rw [hy358]; with_reducible exact H) | (have H2_ := (Option.bind_some _ _).symm.trans H; rw [hy358]; with_reducible exact H2_) | (have H2_ := (Option.bind_some _ _).symm.trans H; with_reducible exact H2_) | with_reducible exact H | (rw [hy358]; exact H) | exact H
 have Ny358 := Aside0.mk hy358
 clear hy358
 replace H := Option.bind_eq_some_iff.mp H
 obtain ⟨t361, A30, H⟩ := H
 replace H : (if t361 = true then (hucksterlaw05_EventPuts.l0 k 0 a0_0 a0_1 l0_2 l0_3 a1_0 a1_1 l1_2 l1_3) else ((hucksterlaw05_awake.f k).bind fun t362 => (some t362))) = some r := H
 have A3 := Aside0.mk A30
 clear A30
 by_cases c4 : t361 = true
 ·subst c4
  have H1 : (hucksterlaw05_EventPuts.l0 k 0 a0_0 a0_1 l0_2 l0_3 a1_0 a1_1 l1_2 l1_3) = some r := by rw [if_pos rfl] at H; exact H
  clear H
  have H := H1
  clear H1
  have H' := Aside0.mk H
  clear H
  go_enter Try.func6, Try.ntmps6
  go_wp2_with (first | ((with_reducible refine gate_dst (N := 2) rfl ?_); (try (refine gate_guard (by rfl) ?_; dsimp only)); refine box_event ?hg (N := 2) ?hd (cs := #[.int .i64 a0_0, .int .i64 a0_1, .slice A0_2 l0_2.length c0_2, .slice A0_3 l0_3.length c0_3]) (t := 30) ?hr ?_; (case hd => rfl); (case hg => rfl); (case hr => exact z18_31); intro gb356 hg w5 hbox hb; have n0_ := Aside0.mk (Kd.V_below (Kd.V_elderB z18_16 gb356 (Nat.le_of_eq hg.symm)) hb); have n1_ := Aside0.mk (Kd.V_below (Kd.V_elderB z18_17 gb356 (Nat.le_of_eq hg.symm)) hb); have n2_ := Aside0.mk (Kd.V_below (Kd.V_elderB z18_18 gb356 (Nat.le_of_eq hg.symm)) hb); have n3_ := Aside0.mk (Kd.V_below (Kd.V_elderB z18_19 gb356 (Nat.le_of_eq hg.symm)) hb); have n4_ := Aside0.mk (below_step z18_15 hb); have n5_ := Aside0.mk (hbox); have n6_ := Aside0.mk ((by rw [hg]; exact (below_size z18_15) : w.heap.size ≤ gb356)); have n7_ := Aside0.mk ((by rw [hg]; exact (below_size z18_15) : w.heap.size ≤ gb356)); clear HO0_2; clear HO0_3; clear HO1_2; clear HO1_3; clear HB; have HO0_2 := n0_; have HO0_3 := n1_; have HO1_2 := n2_; have HO1_3 := n3_; have HB := n4_; have BK356 := n5_; have GW356 := n6_; have GE356 := n7_; clear n0_ n1_ n2_ n3_ n4_ n5_ n6_ n7_; clear hb hbox hg) | ((with_reducible refine gate_dst (N := 3) rfl ?_); (try (refine gate_guard (by rfl) ?_; dsimp only)); refine box_event ?hg (N := 3) ?hd (cs := #[.int .i64 a1_0, .int .i64 a1_1, .slice A1_2 l1_2.length c1_2, .slice A1_3 l1_3.length c1_3]) (t := 30) ?hr ?_; (case hd => rfl); (case hg => rfl); (case hr => exact z18_31); intro gb357 hg w6 hbox hb; have n0_ := Aside0.mk (Kd.V_below (Kd.V_elderB z18_16 gb357 (Nat.le_of_eq hg.symm)) hb); have n1_ := Aside0.mk (Kd.V_below (Kd.V_elderB z18_17 gb357 (Nat.le_of_eq hg.symm)) hb); have n2_ := Aside0.mk (Kd.V_below (Kd.V_elderB z18_18 gb357 (Nat.le_of_eq hg.symm)) hb); have n3_ := Aside0.mk (Kd.V_below (Kd.V_elderB z18_19 gb357 (Nat.le_of_eq hg.symm)) hb); have n4_ := Aside0.mk (blk_below (g := gb356) (o := .cells #[.int .i64 a0_0, .int .i64 a0_1, .slice A0_2 l0_2.length c0_2, .slice A0_3 l0_3.length c0_3] 30 (0, 0)) z18_1 hb); have n5_ := Aside0.mk (below_step z18_14 hb); have n6_ := Aside0.mk (hbox); have n7_ := Aside0.mk ((by rw [hg]; exact (below_size z18_14) : w.heap.size ≤ gb357)); have n8_ := Aside0.mk ((by rw [hg]; exact (below_size z18_14) : w.heap.size ≤ gb357)); have n9_ := Aside0.mk ((by rw [hg]; exact Nat.ne_of_lt (blk_lt (g := gb356) (o := .cells #[.int .i64 a0_0, .int .i64 a0_1, .slice A0_2 l0_2.length c0_2, .slice A0_3 l0_3.length c0_3] 30 (0, 0)) z18_1) : gb356 ≠ gb357)); have n10_ := Aside0.mk ((by rw [hg]; exact Nat.ne_of_gt (blk_lt (g := gb356) (o := .cells #[.int .i64 a0_0, .int .i64 a0_1, .slice A0_2 l0_2.length c0_2, .slice A0_3 l0_3.length c0_3] 30 (0, 0)) z18_1) : gb357 ≠ gb356)); clear HO0_2; clear HO0_3; clear HO1_2; clear HO1_3; clear BK356; clear HB; have HO0_2 := n0_; have HO0_3 := n1_; have HO1_2 := n2_; have HO1_3 := n3_; have BK356 := n4_; have HB := n5_; have BK357 := n6_; have GW357 := n7_; have GE357 := n8_; have NB356_357 := n9_; have NB357_356 := n10_; clear n0_ n1_ n2_ n3_ n4_ n5_ n6_ n7_ n8_ n9_ n10_; clear hb hbox hg; have hnb7 := NB356_357.out; have hnc7 := NB357_356.out; have hcz8_0 : w6.cell? ⟨gb356, 0, none⟩ = some (.int .i64 a0_0) := (blk_cell BK356.out 0).trans rfl; have hcz8_1 : w6.cell? ⟨gb356, 1, none⟩ = some (.int .i64 a0_1) := (blk_cell BK356.out 1).trans rfl; have hcz8_2 : w6.cell? ⟨gb356, 2, none⟩ = some (.slice A0_2 l0_2.length c0_2) := (blk_cell BK356.out 2).trans rfl; have hcz8_3 : w6.cell? ⟨gb356, 3, none⟩ = some (.slice A0_3 l0_3.length c0_3) := (blk_cell BK356.out 3).trans rfl; have hfz8_0 := blk_frozen BK356.out 0; have hfz8_1 := blk_frozen BK356.out 1; have hfz8_2 := blk_frozen BK356.out 2; have hfz8_3 := blk_frozen BK356.out 3; have hcz9_0 : w6.cell? ⟨gb357, 0, none⟩ = some (.int .i64 a1_0) := (blk_cell BK357.out 0).trans rfl; have hcz9_1 : w6.cell? ⟨gb357, 1, none⟩ = some (.int .i64 a1_1) := (blk_cell BK357.out 1).trans rfl; have hcz9_2 : w6.cell? ⟨gb357, 2, none⟩ = some (.slice A1_2 l1_2.length c1_2) := (blk_cell BK357.out 2).trans rfl; have hcz9_3 : w6.cell? ⟨gb357, 3, none⟩ = some (.slice A1_3 l1_3.length c1_3) := (blk_cell BK357.out 3).trans rfl; have hfz9_0 := blk_frozen BK357.out 0; have hfz9_1 := blk_frozen BK357.out 1; have hfz9_2 := blk_frozen BK357.out 2; have hfz9_3 := blk_frozen BK357.out 3) | ((with_reducible refine gate_dst (N := 12) rfl ?_); (try (refine gate_guard (by rfl) ?_; dsimp only)); refine Kd.N_lit k30 _ 30 ?hg (N' := 12) ?hd (xs := ([(⟨(⟨a0_0, a0_1⟩ : S25), l0_2, l0_3⟩ : S30), (⟨(⟨a1_0, a1_1⟩ : S25), l1_2, l1_3⟩ : S30)] : List (S30))) (inner := [.int .i64 a0_0, .int .i64 a0_1, .slice A0_2 l0_2.length c0_2, .slice A0_3 l0_3.length c0_3, .int .i64 a1_0, .int .i64 a1_1, .slice A1_2 l1_2.length c1_2, .slice A1_3 l1_3.length c1_3]) (ok := (fun k_ => ((P0_2_ k_ ∨ P0_3_ k_ ∨ P1_2_ k_ ∨ P1_3_ k_) ∨ w.heap.size ≤ k_) ∧ k_ ≠ gb356 ∧ k_ ≠ gb357)) (okp := (fun k_ => ((P0_2_ k_ ∨ P0_3_ k_ ∨ P1_2_ k_ ∨ P1_3_ k_) ∨ w.heap.size ≤ k_) ∧ k_ ≠ gb356 ∧ k_ ≠ gb357)) ?hr ?hp (fun _ hk => hk) ((show ∀ k_, w6.heap.size ≤ k_ → (fun k_ => ((P0_2_ k_ ∨ P0_3_ k_ ∨ P1_2_ k_ ∨ P1_3_ k_) ∨ w.heap.size ≤ k_) ∧ k_ ≠ gb356 ∧ k_ ≠ gb357) k_ from fun k_ hk => ⟨(.inr (Nat.le_trans (below_size z18_0) hk)), Kd.freshB (g := gb356) (o := .cells #[.int .i64 a0_0, .int .i64 a0_1, .slice A0_2 l0_2.length c0_2, .slice A0_3 l0_3.length c0_3] 30 (0, 0)) z18_1 k_ hk, Kd.freshB (g := gb357) (o := .cells #[.int .i64 a1_0, .int .i64 a1_1, .slice A1_2 l1_2.length c1_2, .slice A1_3 l1_3.length c1_3] 30 (0, 0)) z18_3 k_ hk⟩) _ (Nat.le_refl _)) (Below.refl _ _) (Nat.le_refl _) (by simp) ?_; (case hd => rfl); (case hg => rfl); (case hr => exact z18_31); (case hp => exact z18_4); intro v359 w10 ho11 hb hg_ hnew_; clear hg_ hnew_; (first | rw [← Ny358.out] at ho11 | (simp only [Int.reduceToNat] at ho11; rw [← Ny358.out] at ho11)); have n0_ := Aside0.mk (Kd.V_elder' z18_16 (Kd.N_base ho11) hb); have n1_ := Aside0.mk (Kd.V_elder' z18_17 (Kd.N_base ho11) hb); have n2_ := Aside0.mk (Kd.V_elder' z18_18 (Kd.N_base ho11) hb); have n3_ := Aside0.mk (Kd.V_elder' z18_19 (Kd.N_base ho11) hb); have n4_ := Aside0.mk (Kd.N_lower ho11 (below_size z18_0)); have n5_ := Aside0.mk (blk_below (g := gb356) (o := .cells #[.int .i64 a0_0, .int .i64 a0_1, .slice A0_2 l0_2.length c0_2, .slice A0_3 l0_3.length c0_3] 30 (0, 0)) z18_1 hb); have n6_ := Aside0.mk (blk_below (g := gb357) (o := .cells #[.int .i64 a1_0, .int .i64 a1_1, .slice A1_2 l1_2.length c1_2, .slice A1_3 l1_3.length c1_3] 30 (0, 0)) z18_3 hb); have n7_ := Aside0.mk (below_step z18_0 hb); clear HO0_2; clear HO0_3; clear HO1_2; clear HO1_3; clear BK356; clear BK357; clear HB; have HO0_2 := n0_; have HO0_3 := n1_; have HO1_2 := n2_; have HO1_3 := n3_; have HO360 := n4_; have BK356 := n5_; have BK357 := n6_; have HB := n7_; clear n0_ n1_ n2_ n3_ n4_ n5_ n6_ n7_; clear hb ho11; obtain ⟨Ao12, co12, eo12⟩ := Kd.N_slice HO360.out; subst eo12) | ((with_reducible refine gate_callee (f := 16) rfl ?_); refine goesL_ (some 13) rfl rfl Try.func16 z18_27 rfl #[.slice Ao12 y358.length co12] rfl z18_5 ?_; (with_reducible refine (hucksterlaw05_Light.calls k _ _ y358 true _ ?side1 ?side2 A3.out).mono ?_); (case side1 => exact z18_32); (case side2 => exact (Kd.N_reads' HO360.out).2.1); rintro e w' ⟨rfl, ⟨nd, rfl⟩⟩; refine ⟨_, rfl, ?_⟩))
  go_loopg [5] k (fun kq v5 w' => ∃ (x5_1 : Int), v5 = .int .i64 x5_1 ∧ Aside0 (hucksterlaw05_EventPuts.l0 kq x5_1 a0_0 a0_1 l0_2 l0_3 a1_0 a1_1 l1_2 l1_3 = some r) ∧ Aside0 (kq ≤ k) ∧ Aside0 (Kd.V (Kd.int .i64) 3 w' w.heap.size (fun k_ => ((P0_2_ k_ ∨ P0_3_ k_ ∨ P1_2_ k_ ∨ P1_3_ k_) ∨ w.heap.size ≤ k_) ∧ k_ ≠ gb356 ∧ k_ ≠ gb357) (.slice A0_2 l0_2.length c0_2) l0_2) ∧ Aside0 (Kd.V k48 48 w' w.heap.size (fun k_ => ((P0_2_ k_ ∨ P0_3_ k_ ∨ P1_2_ k_ ∨ P1_3_ k_) ∨ w.heap.size ≤ k_) ∧ k_ ≠ gb356 ∧ k_ ≠ gb357) (.slice A0_3 l0_3.length c0_3) l0_3) ∧ Aside0 (Kd.V (Kd.int .i64) 3 w' w.heap.size (fun k_ => ((P0_2_ k_ ∨ P0_3_ k_ ∨ P1_2_ k_ ∨ P1_3_ k_) ∨ w.heap.size ≤ k_) ∧ k_ ≠ gb356 ∧ k_ ≠ gb357) (.slice A1_2 l1_2.length c1_2) l1_2) ∧ Aside0 (Kd.V k48 48 w' w.heap.size (fun k_ => ((P0_2_ k_ ∨ P0_3_ k_ ∨ P1_2_ k_ ∨ P1_3_ k_) ∨ w.heap.size ≤ k_) ∧ k_ ≠ gb356 ∧ k_ ≠ gb357) (.slice A1_3 l1_3.length c1_3) l1_3) ∧ Aside0 (w'.heap[gb356]? = some (.cells #[.int .i64 a0_0, .int .i64 a0_1, (.slice A0_2 l0_2.length c0_2), (.slice A0_3 l0_3.length c0_3)] 30 (0, 0))) ∧ Aside0 (w'.heap[gb357]? = some (.cells #[.int .i64 a1_0, .int .i64 a1_1, (.slice A1_2 l1_2.length c1_2), (.slice A1_3 l1_3.length c1_3)] 30 (0, 0))) ∧ Aside0 (Below w.heap.size w w'))
  case atStart => exact ⟨(0), (by first | rfl | (simp; done) | (simp [*]; done)), H', ⟨Nat.le_refl _⟩, ⟨by (with_reducible repeat (first | apply Kd.V_alloc | apply Kd.V_drewN | apply Kd.V_drew)); exact Kd.V_mono HO0_2.out (fun _ hk => ⟨hk.1.1.1, ⟨hk.1.1.2, hk.1.2⟩⟩)⟩, ⟨by (with_reducible repeat (first | apply Kd.V_alloc | apply Kd.V_drewN | apply Kd.V_drew)); exact Kd.V_mono HO0_3.out (fun _ hk => ⟨hk.1.1.1, ⟨hk.1.1.2, hk.1.2⟩⟩)⟩, ⟨by (with_reducible repeat (first | apply Kd.V_alloc | apply Kd.V_drewN | apply Kd.V_drew)); exact Kd.V_mono HO1_2.out (fun _ hk => ⟨hk.1.1.1, ⟨hk.1.1.2, hk.1.2⟩⟩)⟩, ⟨by (with_reducible repeat (first | apply Kd.V_alloc | apply Kd.V_drewN | apply Kd.V_drew)); exact Kd.V_mono HO1_3.out (fun _ hk => ⟨hk.1.1.1, ⟨hk.1.1.2, hk.1.2⟩⟩)⟩, ⟨by (with_reducible repeat (first | refine blk_drewN ?_ _ | refine blk_drew ?_ | refine blk_alloc ?_ _)); exact BK356.out⟩, ⟨by (with_reducible repeat (first | refine blk_drewN ?_ _ | refine blk_drew ?_ | refine blk_alloc ?_ _)); exact BK357.out⟩, ⟨by repeat (first | (with_reducible first | exact HB.out | apply below_alloc | apply pw_below_drewN | apply below_drew1 | refine below_set ?_ GE356.out | refine below_set ?_ GE357.out) | exact HB.out)⟩⟩
  case round =>
   clear H'
   try clear c1
   try clear p2
   try clear c4
   try clear c6
   try clear c7
   try clear hcz8_0
   try clear hcz8_1
   try clear hcz8_2
   try clear hcz8_3
   try clear hcz9_0
   try clear hcz9_1
   try clear hcz9_2
   try clear hcz9_3
   try clear hfz8_0
   try clear hfz8_1
   try clear hfz8_2
   try clear hfz8_3
   try clear hfz9_0
   try clear hfz9_1
   try clear hfz9_2
   try clear hfz9_3
   obtain ⟨x5_1, rfl, HA, HK1, HO_357002, HO_357003, HO_358002, HO_358003, BK356, BK357, HB⟩ := hrel
   cases gk with
   | zero => exact absurd HA.out (by simp [hucksterlaw05_EventPuts.l0])
   | succ k1 =>
    have H := HA.out
    clear HA
    simp only [hucksterlaw05_EventPuts.l0] at H
    by_cases c13 : x5_1 < (l0_3.length : Int)
    ·rw [if_pos c13] at H
     have c13b0 : decide (x5_1 < (l0_3.length : Int)) = true := decide_eq_true c13
     clear c13
     by_cases c14 : 0 ≤ x5_1
     ·rw [if_pos c14] at H
      have c14b0 : decide (0 ≤ x5_1) = true := decide_eq_true c14
      clear c14
      replace H := Option.bind_eq_some_iff.mp H
      obtain ⟨t364, A150, H⟩ := H
      replace H : ((hucksterref05_MayEffect.f k1 ((rd_T48 l0_3 x5_1).f0) ((rd_T48 l0_3 x5_1).f1) ((rd_T48 l0_3 x5_1).f2) ((rd_T48 l0_3 x5_1).f3) ((rd_T48 l0_3 x5_1).f4) ((rd_T48 l0_3 x5_1).f5)).bind fun t366 => (if ((t364 == 0) != t366) = true then (some false) else (hucksterlaw05_EventPuts.l0 k1 (wrap64 (x5_1 + 1)) a0_0 a0_1 l0_2 l0_3 a1_0 a1_1 l1_2 l1_3))) = some r := H
      have A15 := Aside0.mk A150
      clear A150
      replace H := Option.bind_eq_some_iff.mp H
      obtain ⟨t366, A160, H⟩ := H
      replace H : (if ((t364 == 0) != t366) = true then (some false) else (hucksterlaw05_EventPuts.l0 k1 (wrap64 (x5_1 + 1)) a0_0 a0_1 l0_2 l0_3 a1_0 a1_1 l1_2 l1_3)) = some r := H
      have A16 := Aside0.mk A160
      clear A160
      by_cases c17 : ((t364 == 0) != t366) = true
      ·rw [if_pos c17] at H
       exact absurd (HRT_.out.symm.trans (Option.some.inj H).symm) (by simp)
      ·rw [if_neg c17] at H
       have c17b0 : ((t364 == 0) != t366) = false := by simpa using c17
       (try (have c17b1 : decide ((t364 == 0) = t366) = true := by simpa using c17))
       (try (have c17b2 : ((t364 == 0) == t366) = true := by simpa using c17))
       clear c17
       have H' := Aside0.mk H
       clear H
       have hnb23 := NB356_357.out
       have hnc23 := NB357_356.out
       have hcz24_0 : wr.cell? ⟨gb356, 0, none⟩ = some (.int .i64 a0_0) := (blk_cell BK356.out 0).trans rfl
       have hcz24_1 : wr.cell? ⟨gb356, 1, none⟩ = some (.int .i64 a0_1) := (blk_cell BK356.out 1).trans rfl
       have hcz24_2 : wr.cell? ⟨gb356, 2, none⟩ = some (.slice A0_2 l0_2.length c0_2) := (blk_cell BK356.out 2).trans rfl
       have hcz24_3 : wr.cell? ⟨gb356, 3, none⟩ = some (.slice A0_3 l0_3.length c0_3) := (blk_cell BK356.out 3).trans rfl
       have hfz24_0 := blk_frozen BK356.out 0
       have hfz24_1 := blk_frozen BK356.out 1
       have hfz24_2 := blk_frozen BK356.out 2
       have hfz24_3 := blk_frozen BK356.out 3
       try go_wp2
       have n0_ := Aside0.mk (Kd.V_drew HO_357002.out)
       have n1_ := Aside0.mk (Kd.V_drew HO_357003.out)
       have n2_ := Aside0.mk (Kd.V_drew HO_358002.out)
       have n3_ := Aside0.mk (Kd.V_drew HO_358003.out)
       have n4_ := Aside0.mk (blk_drew BK356.out)
       have n5_ := Aside0.mk (blk_drew BK357.out)
       have n6_ := Aside0.mk (below_drew1 HB.out)
       clear HO_357002
       clear HO_357003
       clear HO_358002
       clear HO_358003
       clear BK356
       clear BK357
       clear HB
       have HO_357002 := n0_
       have HO_357003 := n1_
       have HO_358002 := n2_
       have HO_358003 := n3_
       have BK356 := n4_
       have BK357 := n5_
       have HB := n6_
       clear n0_ n1_ n2_ n3_ n4_ n5_ n6_
       have p363 : 0 ≤ (x5_1 : Int) := of_decide_eq_true (by first | (with_reducible assumption) | assumption)
       have q363 : x5_1 < (l0_3.length : Int) := of_decide_eq_true (by first | (with_reducible assumption) | assumption)
       obtain ⟨ad363, e363, hx363_0, hx363_1, hx363_2, hx363_3, hx363_4, hx363_5⟩ := at_T48 (Kd.V_reads' HO_357003.out).2.2 x5_1 p363 q363
       cases e363
       replace p363 := eq_true p363
       replace q363 := eq_true q363
       have p365 : 0 ≤ (x5_1 : Int) := of_decide_eq_true (by first | (with_reducible assumption) | assumption)
       have q365 : x5_1 < (l0_3.length : Int) := of_decide_eq_true (by first | (with_reducible assumption) | assumption)
       obtain ⟨ad365, e365, hx365_0, hx365_1, hx365_2, hx365_3, hx365_4, hx365_5⟩ := at_T48 (Kd.V_reads' HO_357003.out).2.2 x5_1 p365 q365
       obtain rfl : ad363 = ad365 := (by injection e365)
       replace p365 := eq_true p365
       replace q365 := eq_true q365
       refine start_ (n := 14) (S := fun w' => w'.cell? ⟨gb356, 0, none⟩ = some (.int .i64 a0_0) ∧ w'.cell? ⟨gb356, 1, none⟩ = some (.int .i64 a0_1) ∧ w'.cell? ⟨gb356, 2, none⟩ = some (.slice A0_2 l0_2.length c0_2) ∧ w'.cell? ⟨gb356, 3, none⟩ = some (.slice (some ad363) l0_3.length c0_3) ∧ w'.cell? (ad363.add ((x5_1).toNat * 6)) = some (.int .i64 ((rd_T48 l0_3 x5_1).f0)) ∧ w'.cell? ⟨(ad363.add ((x5_1).toNat * 6)).block, (ad363.add ((x5_1).toNat * 6)).off + 1, none⟩ = some (.int .i64 ((rd_T48 l0_3 x5_1).f1)) ∧ w'.cell? ⟨(ad363.add ((x5_1).toNat * 6)).block, (ad363.add ((x5_1).toNat * 6)).off + 2, none⟩ = some (.string ((rd_T48 l0_3 x5_1).f2)) ∧ w'.cell? ⟨(ad363.add ((x5_1).toNat * 6)).block, (ad363.add ((x5_1).toNat * 6)).off + 3, none⟩ = some (.int .i64 ((rd_T48 l0_3 x5_1).f3)) ∧ w'.cell? ⟨(ad363.add ((x5_1).toNat * 6)).block, (ad363.add ((x5_1).toNat * 6)).off + 4, none⟩ = some (.int .i64 ((rd_T48 l0_3 x5_1).f4)) ∧ w'.cell? ⟨(ad363.add ((x5_1).toNat * 6)).block, (ad363.add ((x5_1).toNat * 6)).off + 5, none⟩ = some (.string ((rd_T48 l0_3 x5_1).f5)) ∧ w'.cell? (ad363.add ((x5_1).toNat * 6)) = some (.int .i64 ((rd_T48 l0_3 x5_1).f0)) ∧ w'.cell? ⟨(ad363.add ((x5_1).toNat * 6)).block, (ad363.add ((x5_1).toNat * 6)).off + 1, none⟩ = some (.int .i64 ((rd_T48 l0_3 x5_1).f1)) ∧ w'.cell? ⟨(ad363.add ((x5_1).toNat * 6)).block, (ad363.add ((x5_1).toNat * 6)).off + 2, none⟩ = some (.string ((rd_T48 l0_3 x5_1).f2)) ∧ w'.cell? ⟨(ad363.add ((x5_1).toNat * 6)).block, (ad363.add ((x5_1).toNat * 6)).off + 3, none⟩ = some (.int .i64 ((rd_T48 l0_3 x5_1).f3)) ∧ w'.cell? ⟨(ad363.add ((x5_1).toNat * 6)).block, (ad363.add ((x5_1).toNat * 6)).off + 4, none⟩ = some (.int .i64 ((rd_T48 l0_3 x5_1).f4)) ∧ w'.cell? ⟨(ad363.add ((x5_1).toNat * 6)).block, (ad363.add ((x5_1).toNat * 6)).off + 5, none⟩ = some (.string ((rd_T48 l0_3 x5_1).f5))) (ds := []) #[false, false, false, false, false, false, false, false, false, false, false, false, false, false] z18_27 rfl rfl ⟨(blk_cell BK356.out 0).trans rfl, (blk_cell BK356.out 1).trans rfl, (blk_cell BK356.out 2).trans rfl, (blk_cell BK356.out 3).trans rfl, hx363_0, hx363_1, hx363_2, hx363_3, hx363_4, hx363_5, hx365_0, hx365_1, hx365_2, hx365_3, hx365_4, hx365_5⟩ (fun hHeld => ?_); refine with_tabW hucksterlaw05_EventPuts.tab6 hucksterlaw05_EventPuts.bits6 (fun HT_ HW_ => ?_)
       generalize wr.drew = w25 at HO_357002 HO_357003 HO_358002 HO_358003 BK356 BK357 HB hx363_0 hx363_1 hx363_2 hx363_3 hx363_4 hx363_5 hx365_0 hx365_1 hx365_2 hx365_3 hx365_4 hx365_5 hHeld ⊢
       refine pure_ (i := 0) (N := some 23) (v := ?_) (a' := ?_) #[true, false, false, false, false, false, false, false, false, false, false, false, false, false] rfl rfl (any_of HT_.out z18_27) (fun _ _ _ h => h) (Or.inl ⟨by rfl, ?_⟩) ?_ ?_
       rotate_left
       ·intro w'
        go_simp
        with_reducible rfl
       rotate_left
       ·exact z18_2
       refine pure_ (i := 2) (N := some 25) (v := ?_) (a' := ?_) #[true, false, true, false, false, false, false, false, false, false, false, false, false, false] rfl rfl (any_of HT_.out z18_27) (fun _ _ _ h => h) (Or.inl ⟨by rfl, ?_⟩) ?_ ?_
       rotate_left
       ·intro w'
        go_simp
        with_reducible rfl
       rotate_left
       ·exact z18_2
       refine pure_ (i := 7) (N := some 30) (v := ?_) (a' := ?_) #[true, false, true, false, false, false, false, true, false, false, false, false, false, false] rfl rfl (any_of HT_.out z18_27) (fun _ _ _ h => h) (Or.inl ⟨by rfl, ?_⟩) ?_ ?_
       rotate_left
       ·intro w'
        go_simp
        with_reducible rfl
       rotate_left
       ·exact z18_2
       refine pure_ (i := 9) (N := some 32) (v := ?_) (a' := ?_) #[true, false, true, false, false, false, false, true, false, true, false, false, false, false] rfl rfl (any_of HT_.out z18_27) (fun _ _ _ h => h) (Or.inl ⟨by rfl, ?_⟩) ?_ ?_
       rotate_left
       ·intro w'
        go_simp
        with_reducible rfl
       rotate_left
       ·exact z18_2
       refine take_ (i := 1) (N := some 24) (v := ?_) (a' := ?_) #[true, true, true, false, false, false, false, true, false, true, false, false, false, false] rfl rfl (take_ofW HT_.out HW_.out z18_27) (fun _ _ _ h => h) (Or.inl ⟨by rfl, ?_⟩) hHeld ?_ ?_
       rotate_left
       ·rintro w' ⟨s0, s1, s2, s3, s4, s5, s6, s7, s8, s9, s10, s11, s12, s13, s14, s15⟩
        go_simp
        with_reducible rfl
       rotate_left
       ·exact z18_2
       refine pure_ (i := 3) (N := some 26) (v := ?_) (a' := ?_) #[true, true, true, true, false, false, false, true, false, true, false, false, false, false] rfl rfl (any_of HT_.out z18_27) (fun _ _ _ h => h) (Or.inl ⟨by rfl, ?_⟩) ?_ ?_
       rotate_left
       ·intro w'
        go_simp
        with_reducible rfl
       rotate_left
       ·exact z18_2
       refine take_ (i := 4) (N := some 27) (v := ?_) (a' := ?_) #[true, true, true, true, true, false, false, true, false, true, false, false, false, false] rfl rfl (take_ofW HT_.out HW_.out z18_27) (fun _ _ _ h => h) (Or.inl ⟨by rfl, ?_⟩) hHeld ?_ ?_
       rotate_left
       ·rintro w' ⟨s0, s1, s2, s3, s4, s5, s6, s7, s8, s9, s10, s11, s12, s13, s14, s15⟩
        go_simp
        with_reducible rfl
       rotate_left
       ·exact z18_2
       refine take_ (i := 8) (N := some 31) (v := ?_) (a' := ?_) #[true, true, true, true, true, false, false, true, true, true, false, false, false, false] rfl rfl (take_ofW HT_.out HW_.out z18_27) (fun _ _ _ h => h) (Or.inl ⟨by rfl, ?_⟩) hHeld ?_ ?_
       rotate_left
       ·rintro w' ⟨s0, s1, s2, s3, s4, s5, s6, s7, s8, s9, s10, s11, s12, s13, s14, s15⟩
        go_simp
        with_reducible rfl
       rotate_left
       ·exact z18_2
       refine pure_ (i := 10) (N := some 33) (v := ?_) (a' := ?_) #[true, true, true, true, true, false, false, true, true, true, true, false, false, false] rfl rfl (any_of HT_.out z18_27) (fun _ _ _ h => h) (Or.inl ⟨by rfl, ?_⟩) ?_ ?_
       rotate_left
       ·intro w'
        go_simp
        with_reducible rfl
       rotate_left
       ·exact z18_2
       refine take_ (i := 11) (N := some 34) (v := ?_) (a' := ?_) #[true, true, true, true, true, false, false, true, true, true, true, true, false, false] rfl rfl (take_ofW HT_.out HW_.out z18_27) (fun _ _ _ h => h) (Or.inl ⟨by rfl, ?_⟩) hHeld ?_ ?_
       rotate_left
       ·rintro w' ⟨s0, s1, s2, s3, s4, s5, s6, s7, s8, s9, s10, s11, s12, s13, s14, s15⟩
        go_simp
        with_reducible rfl
       rotate_left
       ·exact z18_2
       refine one_ (i := 5) (N := some 28) #[true, true, true, true, true, true, false, true, true, true, true, true, false, false] rfl rfl (one_of HT_.out z18_27) (by decide) (fun K hK => ?_)
       refine goes_ Try.func24 z18_27 rfl #[.agg #[.int .i64 ((rd_T48 l0_3 x5_1).f0), .int .i64 ((rd_T48 l0_3 x5_1).f1), .string ((rd_T48 l0_3 x5_1).f2), .int .i64 ((rd_T48 l0_3 x5_1).f3), .int .i64 ((rd_T48 l0_3 x5_1).f4), .string ((rd_T48 l0_3 x5_1).f5)]] (by rfl) rfl rfl z18_5 ?_
       with_reducible refine (event_CheckEffect.calls k1 ((rd_T48 l0_3 x5_1).f0) ((rd_T48 l0_3 x5_1).f1) ((rd_T48 l0_3 x5_1).f2) ((rd_T48 l0_3 x5_1).f3) ((rd_T48 l0_3 x5_1).f4) ((rd_T48 l0_3 x5_1).f5) t364 _ A15.out).mono ?_
       rintro e w26 ⟨rfl, hb⟩
       have HS4_ := (hb.cell (World.block_lt_of_cell? _ _ (hHeld.2.2.2.2.1))).trans (hHeld.2.2.2.2.1)
       have HS5_ := (hb.cell (World.block_lt_of_cell? _ _ (hHeld.2.2.2.2.2.1))).trans (hHeld.2.2.2.2.2.1)
       have HS6_ := (hb.cell (World.block_lt_of_cell? _ _ (hHeld.2.2.2.2.2.2.1))).trans (hHeld.2.2.2.2.2.2.1)
       have HS7_ := (hb.cell (World.block_lt_of_cell? _ _ (hHeld.2.2.2.2.2.2.2.1))).trans (hHeld.2.2.2.2.2.2.2.1)
       have HS8_ := (hb.cell (World.block_lt_of_cell? _ _ (hHeld.2.2.2.2.2.2.2.2.1))).trans (hHeld.2.2.2.2.2.2.2.2.1)
       have HS9_ := (hb.cell (World.block_lt_of_cell? _ _ (hHeld.2.2.2.2.2.2.2.2.2.1))).trans (hHeld.2.2.2.2.2.2.2.2.2.1)
       have HS10_ := (hb.cell (World.block_lt_of_cell? _ _ (hHeld.2.2.2.2.2.2.2.2.2.2.1))).trans (hHeld.2.2.2.2.2.2.2.2.2.2.1)
       have HS11_ := (hb.cell (World.block_lt_of_cell? _ _ (hHeld.2.2.2.2.2.2.2.2.2.2.2.1))).trans (hHeld.2.2.2.2.2.2.2.2.2.2.2.1)
       have HS12_ := (hb.cell (World.block_lt_of_cell? _ _ (hHeld.2.2.2.2.2.2.2.2.2.2.2.2.1))).trans (hHeld.2.2.2.2.2.2.2.2.2.2.2.2.1)
       have HS13_ := (hb.cell (World.block_lt_of_cell? _ _ (hHeld.2.2.2.2.2.2.2.2.2.2.2.2.2.1))).trans (hHeld.2.2.2.2.2.2.2.2.2.2.2.2.2.1)
       have HS14_ := (hb.cell (World.block_lt_of_cell? _ _ (hHeld.2.2.2.2.2.2.2.2.2.2.2.2.2.2.1))).trans (hHeld.2.2.2.2.2.2.2.2.2.2.2.2.2.2.1)
       have HS15_ := (hb.cell (World.block_lt_of_cell? _ _ (hHeld.2.2.2.2.2.2.2.2.2.2.2.2.2.2.2))).trans (hHeld.2.2.2.2.2.2.2.2.2.2.2.2.2.2.2)
       refine ⟨_, rfl, ?_⟩
       have n0_ := Aside0.mk (Kd.V_below z18_8 hb)
       have n1_ := Aside0.mk (Kd.V_below z18_9 hb)
       have n2_ := Aside0.mk (Kd.V_below z18_10 hb)
       have n3_ := Aside0.mk (Kd.V_below z18_11 hb)
       have n4_ := Aside0.mk (blk_below (g := gb356) (o := .cells #[.int .i64 a0_0, .int .i64 a0_1, .slice A0_2 l0_2.length c0_2, .slice (some ad363) l0_3.length c0_3] 30 (0, 0)) z18_1 hb)
       have n5_ := Aside0.mk (blk_below (g := gb357) (o := .cells #[.int .i64 a1_0, .int .i64 a1_1, .slice A1_2 l1_2.length c1_2, .slice A1_3 l1_3.length c1_3] 30 (0, 0)) z18_3 hb)
       have n6_ := Aside0.mk (below_step z18_0 hb)
       clear HO_357002
       clear HO_357003
       clear HO_358002
       clear HO_358003
       clear BK356
       clear BK357
       clear HB
       have HO_357002 := n0_
       have HO_357003 := n1_
       have HO_358002 := n2_
       have HO_358003 := n3_
       have BK356 := n4_
       have BK357 := n5_
       have HB := n6_
       clear n0_ n1_ n2_ n3_ n4_ n5_ n6_
       (try clear hb)
       (try clear hb2)
       (try clear hk)
       (try clear hi)
       refine hK.out _ _ ⟨(blk_cell BK356.out 0).trans rfl, (blk_cell BK356.out 1).trans rfl, (blk_cell BK356.out 2).trans rfl, (blk_cell BK356.out 3).trans rfl, HS4_, HS5_, HS6_, HS7_, HS8_, HS9_, HS10_, HS11_, HS12_, HS13_, HS14_, HS15_⟩ (fun hHeld => ?_)
       clear hK K
       refine norm_ (a' := ?_) ?_ ?_
       rotate_left
       ·show Act.put _ (some 28) _ = _; simp only [Act.put, List.setIfInBounds_toArray, List.set_cons_zero, List.set_cons_succ, i64_w, i32_w]; rfl
       refine pure_ (i := 6) (N := some 29) (v := ?_) (a' := ?_) #[true, true, true, true, true, true, true, true, true, true, true, true, false, false] rfl rfl (any_of HT_.out z18_27) (fun _ _ _ h => h) (Or.inl ⟨by rfl, ?_⟩) ?_ ?_
       rotate_left
       ·intro w'
        go_simp
        with_reducible rfl
       rotate_left
       ·exact z18_2
       refine one_ (i := 12) (N := some 35) #[true, true, true, true, true, true, true, true, true, true, true, true, true, false] rfl rfl (one_of HT_.out z18_27) (by decide) (fun K hK => ?_)
       refine goes_ Try.func25 z18_27 rfl #[.agg #[.int .i64 ((rd_T48 l0_3 x5_1).f0), .int .i64 ((rd_T48 l0_3 x5_1).f1), .string ((rd_T48 l0_3 x5_1).f2), .int .i64 ((rd_T48 l0_3 x5_1).f3), .int .i64 ((rd_T48 l0_3 x5_1).f4), .string ((rd_T48 l0_3 x5_1).f5)]] (by rfl) rfl rfl z18_5 ?_
       with_reducible refine (hucksterref05_MayEffect.calls k1 ((rd_T48 l0_3 x5_1).f0) ((rd_T48 l0_3 x5_1).f1) ((rd_T48 l0_3 x5_1).f2) ((rd_T48 l0_3 x5_1).f3) ((rd_T48 l0_3 x5_1).f4) ((rd_T48 l0_3 x5_1).f5) t366 _ A16.out).mono ?_
       rintro e w27 ⟨rfl, hb⟩
       have HS4_ := (hb.cell (World.block_lt_of_cell? _ _ (hHeld.2.2.2.2.1))).trans (hHeld.2.2.2.2.1)
       have HS5_ := (hb.cell (World.block_lt_of_cell? _ _ (hHeld.2.2.2.2.2.1))).trans (hHeld.2.2.2.2.2.1)
       have HS6_ := (hb.cell (World.block_lt_of_cell? _ _ (hHeld.2.2.2.2.2.2.1))).trans (hHeld.2.2.2.2.2.2.1)
       have HS7_ := (hb.cell (World.block_lt_of_cell? _ _ (hHeld.2.2.2.2.2.2.2.1))).trans (hHeld.2.2.2.2.2.2.2.1)
       have HS8_ := (hb.cell (World.block_lt_of_cell? _ _ (hHeld.2.2.2.2.2.2.2.2.1))).trans (hHeld.2.2.2.2.2.2.2.2.1)
       have HS9_ := (hb.cell (World.block_lt_of_cell? _ _ (hHeld.2.2.2.2.2.2.2.2.2.1))).trans (hHeld.2.2.2.2.2.2.2.2.2.1)
       have HS10_ := (hb.cell (World.block_lt_of_cell? _ _ (hHeld.2.2.2.2.2.2.2.2.2.2.1))).trans (hHeld.2.2.2.2.2.2.2.2.2.2.1)
       have HS11_ := (hb.cell (World.block_lt_of_cell? _ _ (hHeld.2.2.2.2.2.2.2.2.2.2.2.1))).trans (hHeld.2.2.2.2.2.2.2.2.2.2.2.1)
       have HS12_ := (hb.cell (World.block_lt_of_cell? _ _ (hHeld.2.2.2.2.2.2.2.2.2.2.2.2.1))).trans (hHeld.2.2.2.2.2.2.2.2.2.2.2.2.1)
       have HS13_ := (hb.cell (World.block_lt_of_cell? _ _ (hHeld.2.2.2.2.2.2.2.2.2.2.2.2.2.1))).trans (hHeld.2.2.2.2.2.2.2.2.2.2.2.2.2.1)
       have HS14_ := (hb.cell (World.block_lt_of_cell? _ _ (hHeld.2.2.2.2.2.2.2.2.2.2.2.2.2.2.1))).trans (hHeld.2.2.2.2.2.2.2.2.2.2.2.2.2.2.1)
       have HS15_ := (hb.cell (World.block_lt_of_cell? _ _ (hHeld.2.2.2.2.2.2.2.2.2.2.2.2.2.2.2))).trans (hHeld.2.2.2.2.2.2.2.2.2.2.2.2.2.2.2)
       refine ⟨_, rfl, ?_⟩
       have n0_ := Aside0.mk (Kd.V_below z18_8 hb)
       have n1_ := Aside0.mk (Kd.V_below z18_9 hb)
       have n2_ := Aside0.mk (Kd.V_below z18_10 hb)
       have n3_ := Aside0.mk (Kd.V_below z18_11 hb)
       have n4_ := Aside0.mk (blk_below (g := gb356) (o := .cells #[.int .i64 a0_0, .int .i64 a0_1, .slice A0_2 l0_2.length c0_2, .slice (some ad363) l0_3.length c0_3] 30 (0, 0)) z18_1 hb)
       have n5_ := Aside0.mk (blk_below (g := gb357) (o := .cells #[.int .i64 a1_0, .int .i64 a1_1, .slice A1_2 l1_2.length c1_2, .slice A1_3 l1_3.length c1_3] 30 (0, 0)) z18_3 hb)
       have n6_ := Aside0.mk (below_step z18_0 hb)
       clear HO_357002
       clear HO_357003
       clear HO_358002
       clear HO_358003
       clear BK356
       clear BK357
       clear HB
       have HO_357002 := n0_
       have HO_357003 := n1_
       have HO_358002 := n2_
       have HO_358003 := n3_
       have BK356 := n4_
       have BK357 := n5_
       have HB := n6_
       clear n0_ n1_ n2_ n3_ n4_ n5_ n6_
       (try clear hb)
       (try clear hb2)
       (try clear hk)
       (try clear hi)
       refine hK.out _ _ ⟨(blk_cell BK356.out 0).trans rfl, (blk_cell BK356.out 1).trans rfl, (blk_cell BK356.out 2).trans rfl, (blk_cell BK356.out 3).trans rfl, HS4_, HS5_, HS6_, HS7_, HS8_, HS9_, HS10_, HS11_, HS12_, HS13_, HS14_, HS15_⟩ (fun hHeld => ?_)
       clear hK K
       refine norm_ (a' := ?_) ?_ ?_
       rotate_left
       ·show Act.put _ (some 35) _ = _; simp only [Act.put, List.setIfInBounds_toArray, List.set_cons_zero, List.set_cons_succ, i64_w, i32_w]; rfl
       refine pure_ (i := 13) (N := some 36) (v := ?_) (a' := ?_) #[true, true, true, true, true, true, true, true, true, true, true, true, true, true] rfl rfl (any_of HT_.out z18_27) (fun _ _ _ h => h) (Or.inl ⟨by rfl, ?_⟩) ?_ ?_
       rotate_left
       ·intro w'
        go_simp
        with_reducible rfl
       rotate_left
       ·exact z18_2
       refine done_ (done_of HT_.out z18_27) ?_
       try go_wp2
       go_roundg k1
       case measure => have := HK1.out; omega
       case rel => exact ⟨(wrap64 (x5_1 + 1)), (by first | rfl | (simp; done) | (simp [*]; done)), H', ⟨by have := HK1.out; omega⟩, ⟨by (with_reducible repeat (first | apply Kd.V_alloc | apply Kd.V_drewN | apply Kd.V_drew)); exact HO_357002.out⟩, ⟨by (with_reducible repeat (first | apply Kd.V_alloc | apply Kd.V_drewN | apply Kd.V_drew)); exact HO_357003.out⟩, ⟨by (with_reducible repeat (first | apply Kd.V_alloc | apply Kd.V_drewN | apply Kd.V_drew)); exact HO_358002.out⟩, ⟨by (with_reducible repeat (first | apply Kd.V_alloc | apply Kd.V_drewN | apply Kd.V_drew)); exact HO_358003.out⟩, ⟨by (with_reducible repeat (first | refine blk_drewN ?_ _ | refine blk_drew ?_ | refine blk_alloc ?_ _)); exact BK356.out⟩, ⟨by (with_reducible repeat (first | refine blk_drewN ?_ _ | refine blk_drew ?_ | refine blk_alloc ?_ _)); exact BK357.out⟩, ⟨by repeat (first | (with_reducible first | exact HB.out | apply below_alloc | apply pw_below_drewN | apply below_drew1 | refine below_set ?_ GE356.out | refine below_set ?_ GE357.out) | exact HB.out)⟩⟩
     ·rw [if_neg c14] at H
      exact absurd H (by simp)
    ·rw [if_neg c13] at H
     have c13b0 : decide (x5_1 < (l0_3.length : Int)) = false := decide_eq_false c13
     clear c13
     replace H := Option.bind_eq_some_iff.mp H
     obtain ⟨⟨t367, t370⟩, A280, H⟩ := H
     replace H : ((event_Same.f k1 a0_0 a0_1 l0_2 l0_3 a1_0 a1_1 l1_2 l1_3).bind fun t371 => ((hucksterref05_Same.f k1 a0_0 a0_1 l0_2 l0_3 a1_0 a1_1 l1_2 l1_3).bind fun t372 => (if (t371 != t372) = true then (hucksterlaw05_EventPuts.j1 k1 t367 t370 true a0_0 a0_1 l0_2 l0_3) else ((event_Same.f k1 a0_0 a0_1 l0_2 l0_3 a0_0 a0_1 l0_2 l0_3).bind fun t373 => (hucksterlaw05_EventPuts.j1 k1 t367 t370 (!t373) a0_0 a0_1 l0_2 l0_3))))) = some r := H
     have A28 := Aside0.mk A280
     clear A280
     have HC29 := Aside0.mk H
     clear H
     have hnb30 := NB356_357.out
     have hnc30 := NB357_356.out
     have hcz31_0 : wr.cell? ⟨gb356, 0, none⟩ = some (.int .i64 a0_0) := (blk_cell BK356.out 0).trans rfl
     have hcz31_1 : wr.cell? ⟨gb356, 1, none⟩ = some (.int .i64 a0_1) := (blk_cell BK356.out 1).trans rfl
     have hcz31_2 : wr.cell? ⟨gb356, 2, none⟩ = some (.slice A0_2 l0_2.length c0_2) := (blk_cell BK356.out 2).trans rfl
     have hcz31_3 : wr.cell? ⟨gb356, 3, none⟩ = some (.slice A0_3 l0_3.length c0_3) := (blk_cell BK356.out 3).trans rfl
     have hfz31_0 := blk_frozen BK356.out 0
     have hfz31_1 := blk_frozen BK356.out 1
     have hfz31_2 := blk_frozen BK356.out 2
     have hfz31_3 := blk_frozen BK356.out 3
     go_upto_region 9 with (first | ((with_reducible refine gate_callee (f := 22) rfl ?_); refine goesL_ (some 39) rfl rfl Try.func22 z18_27 rfl #[.agg #[.int .i64 a0_0, .int .i64 a0_1, .slice A0_2 l0_2.length c0_2, .slice A0_3 l0_3.length c0_3]] rfl z18_5 ?_; (with_reducible refine (event_Put.calls k1 a0_0 a0_1 _ _ l0_2 _ _ l0_3 t367 t370 _ ?side1 ?side2 ?side3 ?side4 A28.out).mono ?_); (case side1 => exact z18_6); (case side2 => exact z18_25); (case side3 => exact z18_7); (case side4 => exact z18_26); rintro e w32 ⟨v368, rfl, ho0, hb⟩; refine ⟨_, rfl, ?_⟩; have n0_ := Aside0.mk (Kd.V_elder' z18_8 (Kd.R_base ho0) hb); have n1_ := Aside0.mk (Kd.V_elder' z18_9 (Kd.R_base ho0) hb); have n2_ := Aside0.mk (Kd.V_elder' z18_10 (Kd.R_base ho0) hb); have n3_ := Aside0.mk (Kd.V_elder' z18_11 (Kd.R_base ho0) hb); have n4_ := Aside0.mk (Kd.R_lower (Kd.R_newM (M := fun k_ => (w.heap.size ≤ k_)) ho0 (below_size z18_0) (fun k_ h_ => h_)) (below_size z18_0)); have n5_ := Aside0.mk (blk_below (g := gb356) (o := .cells #[.int .i64 a0_0, .int .i64 a0_1, .slice A0_2 l0_2.length c0_2, .slice A0_3 l0_3.length c0_3] 30 (0, 0)) z18_1 hb); have n6_ := Aside0.mk (blk_below (g := gb357) (o := .cells #[.int .i64 a1_0, .int .i64 a1_1, .slice A1_2 l1_2.length c1_2, .slice A1_3 l1_3.length c1_3] 30 (0, 0)) z18_3 hb); have n7_ := Aside0.mk (below_step z18_0 hb); clear HO_357002; clear HO_357003; clear HO_358002; clear HO_358003; clear BK356; clear BK357; clear HB; have HO_357002 := n0_; have HO_357003 := n1_; have HO_358002 := n2_; have HO_358003 := n3_; have HO369 := n4_; have BK356 := n5_; have BK357 := n6_; have HB := n7_; clear n0_ n1_ n2_ n3_ n4_ n5_ n6_ n7_; (try clear hb); (try clear hb2); (try clear hk); (try clear hi); (try clear ho0)))
     (try simp only [Act.put, List.setIfInBounds_toArray, List.set_cons_zero, List.set_cons_succ])
     go_cut [54] (fun v54 wc => ∃ (kq : Nat) (x54_28 : Bool), v54 = .bool x54_28 ∧ Aside0 (hucksterlaw05_EventPuts.j1 kq t367 t370 x54_28 a0_0 a0_1 l0_2 l0_3 = some r) ∧ Aside0 (kq ≤ k1) ∧ Aside0 (Kd.R (Kd.int .u8) 5 wc w.heap.size (fun k_ => (w.heap.size ≤ k_)) v368 t367) ∧ Aside0 (Kd.V (Kd.int .i64) 3 wc w.heap.size (fun k_ => ((P0_2_ k_ ∨ P0_3_ k_ ∨ P1_2_ k_ ∨ P1_3_ k_) ∨ w.heap.size ≤ k_) ∧ some k_ ≠ (v368 : Value).ownBlock ∧ k_ ≠ gb356 ∧ k_ ≠ gb357) (.slice A0_2 l0_2.length c0_2) l0_2) ∧ Aside0 (Kd.V k48 48 wc w.heap.size (fun k_ => ((P0_2_ k_ ∨ P0_3_ k_ ∨ P1_2_ k_ ∨ P1_3_ k_) ∨ w.heap.size ≤ k_) ∧ some k_ ≠ (v368 : Value).ownBlock ∧ k_ ≠ gb356 ∧ k_ ≠ gb357) (.slice A0_3 l0_3.length c0_3) l0_3) ∧ Aside0 (Kd.V (Kd.int .i64) 3 wc w.heap.size (fun k_ => ((P0_2_ k_ ∨ P0_3_ k_ ∨ P1_2_ k_ ∨ P1_3_ k_) ∨ w.heap.size ≤ k_) ∧ some k_ ≠ (v368 : Value).ownBlock ∧ k_ ≠ gb356 ∧ k_ ≠ gb357) (.slice A1_2 l1_2.length c1_2) l1_2) ∧ Aside0 (Kd.V k48 48 wc w.heap.size (fun k_ => ((P0_2_ k_ ∨ P0_3_ k_ ∨ P1_2_ k_ ∨ P1_3_ k_) ∨ w.heap.size ≤ k_) ∧ some k_ ≠ (v368 : Value).ownBlock ∧ k_ ≠ gb356 ∧ k_ ≠ gb357) (.slice A1_3 l1_3.length c1_3) l1_3) ∧ Aside0 (wc.heap[gb356]? = some (.cells #[.int .i64 a0_0, .int .i64 a0_1, (.slice A0_2 l0_2.length c0_2), (.slice A0_3 l0_3.length c0_3)] 30 (0, 0))) ∧ Aside0 (wc.heap[gb357]? = some (.cells #[.int .i64 a1_0, .int .i64 a1_1, (.slice A1_2 l1_2.length c1_2), (.slice A1_3 l1_3.length c1_3)] 30 (0, 0))) ∧ Aside0 (Below w.heap.size w wc))
     case first =>
      have H := HC29.out
      clear HC29
      replace H := Option.bind_eq_some_iff.mp H
      obtain ⟨t371, A330, H⟩ := H
      replace H : ((hucksterref05_Same.f k1 a0_0 a0_1 l0_2 l0_3 a1_0 a1_1 l1_2 l1_3).bind fun t372 => (if (t371 != t372) = true then (hucksterlaw05_EventPuts.j1 k1 t367 t370 true a0_0 a0_1 l0_2 l0_3) else ((event_Same.f k1 a0_0 a0_1 l0_2 l0_3 a0_0 a0_1 l0_2 l0_3).bind fun t373 => (hucksterlaw05_EventPuts.j1 k1 t367 t370 (!t373) a0_0 a0_1 l0_2 l0_3)))) = some r := H
      have A33 := Aside0.mk A330
      clear A330
      replace H := Option.bind_eq_some_iff.mp H
      obtain ⟨t372, A340, H⟩ := H
      replace H : (if (t371 != t372) = true then (hucksterlaw05_EventPuts.j1 k1 t367 t370 true a0_0 a0_1 l0_2 l0_3) else ((event_Same.f k1 a0_0 a0_1 l0_2 l0_3 a0_0 a0_1 l0_2 l0_3).bind fun t373 => (hucksterlaw05_EventPuts.j1 k1 t367 t370 (!t373) a0_0 a0_1 l0_2 l0_3))) = some r := H
      have A34 := Aside0.mk A340
      clear A340
      by_cases c35 : (t371 != t372) = true
      ·rw [if_pos c35] at H
       have c35b0 : (t371 != t372) = true := c35
       (try (have c35b1 : decide (t371 = t372) = false := by simpa using c35))
       (try (have c35b2 : (t371 == t372) = false := by simpa using c35))
       (try (have c35b3 : ¬ (t371 = t372) := by simpa using c35))
       clear c35
       (first | rw [c35b0] | (simp only [i64_w, i32_w]; rw [c35b0]) | skip)
       have H' := Aside0.mk H
       clear H
       try go_wp2
       have n0_ := Aside0.mk (Kd.V_drew HO_357002.out)
       have n1_ := Aside0.mk (Kd.V_drew HO_357003.out)
       have n2_ := Aside0.mk (Kd.V_drew HO_358002.out)
       have n3_ := Aside0.mk (Kd.V_drew HO_358003.out)
       have n4_ := Aside0.mk (Kd.R_drew HO369.out)
       have n5_ := Aside0.mk (blk_drew BK356.out)
       have n6_ := Aside0.mk (blk_drew BK357.out)
       have n7_ := Aside0.mk (below_drew1 HB.out)
       clear HO_357002
       clear HO_357003
       clear HO_358002
       clear HO_358003
       clear HO369
       clear BK356
       clear BK357
       clear HB
       have HO_357002 := n0_
       have HO_357003 := n1_
       have HO_358002 := n2_
       have HO_358003 := n3_
       have HO369 := n4_
       have BK356 := n5_
       have BK357 := n6_
       have HB := n7_
       clear n0_ n1_ n2_ n3_ n4_ n5_ n6_ n7_
       refine start_ (n := 13) (S := fun w' => w'.cell? ⟨gb356, 0, none⟩ = some (.int .i64 a0_0) ∧ w'.cell? ⟨gb356, 1, none⟩ = some (.int .i64 a0_1) ∧ w'.cell? ⟨gb356, 2, none⟩ = some (.slice A0_2 l0_2.length c0_2) ∧ w'.cell? ⟨gb356, 3, none⟩ = some (.slice A0_3 l0_3.length c0_3) ∧ w'.cell? ⟨gb357, 0, none⟩ = some (.int .i64 a1_0) ∧ w'.cell? ⟨gb357, 1, none⟩ = some (.int .i64 a1_1) ∧ w'.cell? ⟨gb357, 2, none⟩ = some (.slice A1_2 l1_2.length c1_2) ∧ w'.cell? ⟨gb357, 3, none⟩ = some (.slice A1_3 l1_3.length c1_3)) (ds := []) #[false, false, false, false, false, false, false, false, false, false, false, false, false] z18_27 rfl rfl ⟨(blk_cell BK356.out 0).trans rfl, (blk_cell BK356.out 1).trans rfl, (blk_cell BK356.out 2).trans rfl, (blk_cell BK356.out 3).trans rfl, (blk_cell BK357.out 0).trans rfl, (blk_cell BK357.out 1).trans rfl, (blk_cell BK357.out 2).trans rfl, (blk_cell BK357.out 3).trans rfl⟩ (fun hHeld => ?_); refine with_tabW hucksterlaw05_EventPuts.tab9 hucksterlaw05_EventPuts.bits9 (fun HT_ HW_ => ?_)
       generalize w32.drew = w36 at HO_357002 HO_357003 HO_358002 HO_358003 HO369 BK356 BK357 HB hHeld ⊢
       refine take_ (i := 0) (N := some 42) (v := ?_) (a' := ?_) #[true, false, false, false, false, false, false, false, false, false, false, false, false] rfl rfl (take_ofW HT_.out HW_.out z18_27) (fun _ _ _ h => h) (Or.inl ⟨by rfl, ?_⟩) hHeld ?_ ?_
       rotate_left
       ·rintro w' ⟨s0, s1, s2, s3, s4, s5, s6, s7⟩
        go_simp
        with_reducible rfl
       rotate_left
       ·exact z18_2
       refine take_ (i := 1) (N := some 43) (v := ?_) (a' := ?_) #[true, true, false, false, false, false, false, false, false, false, false, false, false] rfl rfl (take_ofW HT_.out HW_.out z18_27) (fun _ _ _ h => h) (Or.inl ⟨by rfl, ?_⟩) hHeld ?_ ?_
       rotate_left
       ·rintro w' ⟨s0, s1, s2, s3, s4, s5, s6, s7⟩
        go_simp
        with_reducible rfl
       rotate_left
       ·exact z18_2
       refine take_ (i := 3) (N := some 45) (v := ?_) (a' := ?_) #[true, true, false, true, false, false, false, false, false, false, false, false, false] rfl rfl (take_ofW HT_.out HW_.out z18_27) (fun _ _ _ h => h) (Or.inl ⟨by rfl, ?_⟩) hHeld ?_ ?_
       rotate_left
       ·rintro w' ⟨s0, s1, s2, s3, s4, s5, s6, s7⟩
        go_simp
        with_reducible rfl
       rotate_left
       ·exact z18_2
       refine take_ (i := 4) (N := some 46) (v := ?_) (a' := ?_) #[true, true, false, true, true, false, false, false, false, false, false, false, false] rfl rfl (take_ofW HT_.out HW_.out z18_27) (fun _ _ _ h => h) (Or.inl ⟨by rfl, ?_⟩) hHeld ?_ ?_
       rotate_left
       ·rintro w' ⟨s0, s1, s2, s3, s4, s5, s6, s7⟩
        go_simp
        with_reducible rfl
       rotate_left
       ·exact z18_2
       refine one_ (i := 2) (N := some 44) #[true, true, true, true, true, false, false, false, false, false, false, false, false] rfl rfl (one_of HT_.out z18_27) (by decide) (fun K hK => ?_)
       refine goes_ Try.func26 z18_27 rfl #[.agg #[.int .i64 a0_0, .int .i64 a0_1, .slice A0_2 l0_2.length c0_2, .slice A0_3 l0_3.length c0_3], .agg #[.int .i64 a1_0, .int .i64 a1_1, .slice A1_2 l1_2.length c1_2, .slice A1_3 l1_3.length c1_3]] (by rfl) rfl rfl z18_5 ?_
       with_reducible refine (event_Same.calls k1 a0_0 a0_1 _ _ l0_2 _ _ l0_3 a1_0 a1_1 _ _ l1_2 _ _ l1_3 t371 _ ?side1 ?side2 ?side3 ?side4 ?side5 ?side6 ?side7 ?side8 A33.out).mono ?_
       (case side1 => exact z18_6)
       (case side2 => exact z18_25)
       (case side3 => exact z18_7)
       (case side4 => exact z18_26)
       (case side5 => exact z18_22)
       (case side6 => exact (Kd.V_reads' HO_358002.out).2.1)
       (case side7 => exact z18_23)
       (case side8 => exact (Kd.V_reads' HO_358003.out).2.1)
       rintro e w37 ⟨rfl, hb⟩
       refine ⟨_, rfl, ?_⟩
       have n0_ := Aside0.mk (Kd.V_below z18_8 hb)
       have n1_ := Aside0.mk (Kd.V_below z18_9 hb)
       have n2_ := Aside0.mk (Kd.V_below z18_10 hb)
       have n3_ := Aside0.mk (Kd.V_below z18_11 hb)
       have n4_ := Aside0.mk (Kd.R_below z18_24 hb)
       have n5_ := Aside0.mk (blk_below (g := gb356) (o := .cells #[.int .i64 a0_0, .int .i64 a0_1, .slice A0_2 l0_2.length c0_2, .slice A0_3 l0_3.length c0_3] 30 (0, 0)) z18_1 hb)
       have n6_ := Aside0.mk (blk_below (g := gb357) (o := .cells #[.int .i64 a1_0, .int .i64 a1_1, .slice A1_2 l1_2.length c1_2, .slice A1_3 l1_3.length c1_3] 30 (0, 0)) z18_3 hb)
       have n7_ := Aside0.mk (below_step z18_0 hb)
       clear HO_357002
       clear HO_357003
       clear HO_358002
       clear HO_358003
       clear HO369
       clear BK356
       clear BK357
       clear HB
       have HO_357002 := n0_
       have HO_357003 := n1_
       have HO_358002 := n2_
       have HO_358003 := n3_
       have HO369 := n4_
       have BK356 := n5_
       have BK357 := n6_
       have HB := n7_
       clear n0_ n1_ n2_ n3_ n4_ n5_ n6_ n7_
       (try clear hb)
       (try clear hb2)
       (try clear hk)
       (try clear hi)
       refine hK.out _ _ ⟨(blk_cell BK356.out 0).trans rfl, (blk_cell BK356.out 1).trans rfl, (blk_cell BK356.out 2).trans rfl, (blk_cell BK356.out 3).trans rfl, (blk_cell BK357.out 0).trans rfl, (blk_cell BK357.out 1).trans rfl, (blk_cell BK357.out 2).trans rfl, (blk_cell BK357.out 3).trans rfl⟩ (fun hHeld => ?_)
       clear hK K
       refine norm_ (a' := ?_) ?_ ?_
       rotate_left
       ·show Act.put _ (some 44) _ = _; simp only [Act.put, List.setIfInBounds_toArray, List.set_cons_zero, List.set_cons_succ, i64_w, i32_w]; rfl
       refine one_ (i := 5) (N := some 47) #[true, true, true, true, true, true, false, false, false, false, false, false, false] rfl rfl (one_of HT_.out z18_27) (by decide) (fun K hK => ?_)
       refine goes_ Try.func15 z18_27 rfl #[.agg #[.int .i64 a0_0, .int .i64 a0_1, .slice A0_2 l0_2.length c0_2, .slice A0_3 l0_3.length c0_3], .agg #[.int .i64 a1_0, .int .i64 a1_1, .slice A1_2 l1_2.length c1_2, .slice A1_3 l1_3.length c1_3]] (by rfl) rfl rfl z18_5 ?_
       with_reducible refine (hucksterref05_Same.calls k1 a0_0 a0_1 _ _ l0_2 _ _ l0_3 a1_0 a1_1 _ _ l1_2 _ _ l1_3 t372 _ ?side1 ?side2 ?side3 ?side4 ?side5 ?side6 ?side7 ?side8 A34.out).mono ?_
       (case side1 => exact z18_6)
       (case side2 => exact z18_25)
       (case side3 => exact z18_7)
       (case side4 => exact z18_26)
       (case side5 => exact z18_22)
       (case side6 => exact (Kd.V_reads' HO_358002.out).2.1)
       (case side7 => exact z18_23)
       (case side8 => exact (Kd.V_reads' HO_358003.out).2.1)
       rintro e w38 ⟨rfl, hb⟩
       refine ⟨_, rfl, ?_⟩
       have n0_ := Aside0.mk (Kd.V_below z18_8 hb)
       have n1_ := Aside0.mk (Kd.V_below z18_9 hb)
       have n2_ := Aside0.mk (Kd.V_below z18_10 hb)
       have n3_ := Aside0.mk (Kd.V_below z18_11 hb)
       have n4_ := Aside0.mk (Kd.R_below z18_24 hb)
       have n5_ := Aside0.mk (blk_below (g := gb356) (o := .cells #[.int .i64 a0_0, .int .i64 a0_1, .slice A0_2 l0_2.length c0_2, .slice A0_3 l0_3.length c0_3] 30 (0, 0)) z18_1 hb)
       have n6_ := Aside0.mk (blk_below (g := gb357) (o := .cells #[.int .i64 a1_0, .int .i64 a1_1, .slice A1_2 l1_2.length c1_2, .slice A1_3 l1_3.length c1_3] 30 (0, 0)) z18_3 hb)
       have n7_ := Aside0.mk (below_step z18_0 hb)
       clear HO_357002
       clear HO_357003
       clear HO_358002
       clear HO_358003
       clear HO369
       clear BK356
       clear BK357
       clear HB
       have HO_357002 := n0_
       have HO_357003 := n1_
       have HO_358002 := n2_
       have HO_358003 := n3_
       have HO369 := n4_
       have BK356 := n5_
       have BK357 := n6_
       have HB := n7_
       clear n0_ n1_ n2_ n3_ n4_ n5_ n6_ n7_
       (try clear hb)
       (try clear hb2)
       (try clear hk)
       (try clear hi)
       refine hK.out _ _ ⟨(blk_cell BK356.out 0).trans rfl, (blk_cell BK356.out 1).trans rfl, (blk_cell BK356.out 2).trans rfl, (blk_cell BK356.out 3).trans rfl, (blk_cell BK357.out 0).trans rfl, (blk_cell BK357.out 1).trans rfl, (blk_cell BK357.out 2).trans rfl, (blk_cell BK357.out 3).trans rfl⟩ (fun hHeld => ?_)
       clear hK K
       refine norm_ (a' := ?_) ?_ ?_
       rotate_left
       ·show Act.put _ (some 47) _ = _; simp only [Act.put, List.setIfInBounds_toArray, List.set_cons_zero, List.set_cons_succ, i64_w, i32_w]; rfl
       refine pure_ (i := 6) (N := some 48) (v := ?_) (a' := ?_) #[true, true, true, true, true, true, true, false, false, false, false, false, false] rfl rfl (any_of HT_.out z18_27) (fun _ _ _ h => h) (Or.inl ⟨by rfl, ?_⟩) ?_ ?_
       rotate_left
       ·intro w'
        go_simp
        with_reducible rfl
       rotate_left
       ·exact z18_2
       refine pure_ (i := 7) (N := some 49) (v := ?_) (a' := ?_) #[true, true, true, true, true, true, true, true, false, false, false, false, false] rfl rfl (any_of HT_.out z18_27) (fun _ _ _ h => h) (Or.inl ⟨by rfl, ?_⟩) ?_ ?_
       rotate_left
       ·intro w'
        go_simp
        with_reducible rfl
       rotate_left
       ·exact z18_2
       refine pure_ (i := 8) (N := some 50) (v := undef) (a' := ?_) #[true, true, true, true, true, true, true, true, true, false, false, false, false] rfl rfl (any_of HT_.out z18_27) (fun _ _ _ h => h) (Or.inr ⟨by rfl, rfl⟩) ?_ ?_
       rotate_left
       ·exact z18_2
       refine pure_ (i := 9) (N := some 51) (v := undef) (a' := ?_) #[true, true, true, true, true, true, true, true, true, true, false, false, false] rfl rfl (any_of HT_.out z18_27) (fun _ _ _ h => h) (Or.inr ⟨by rfl, rfl⟩) ?_ ?_
       rotate_left
       ·exact z18_2
       refine pure_ (i := 10) (N := some 52) (v := undef) (a' := ?_) #[true, true, true, true, true, true, true, true, true, true, true, false, false] rfl rfl (any_of HT_.out z18_27) (fun _ _ _ h => h) (Or.inr ⟨by rfl, rfl⟩) ?_ ?_
       rotate_left
       ·exact z18_2
       refine pure_ (i := 11) (N := some 53) (v := undef) (a' := ?_) #[true, true, true, true, true, true, true, true, true, true, true, true, false] rfl rfl (any_of HT_.out z18_27) (fun _ _ _ h => h) (Or.inr ⟨by rfl, rfl⟩) ?_ ?_
       rotate_left
       ·exact z18_2
       refine pure_ (i := 12) (N := some 54) (v := ?_) (a' := ?_) #[true, true, true, true, true, true, true, true, true, true, true, true, true] rfl rfl (any_of HT_.out z18_27) (fun _ _ _ h => h) (Or.inl ⟨by rfl, ?_⟩) ?_ ?_
       rotate_left
       ·intro w'
        go_simp
        with_reducible rfl
       rotate_left
       ·exact z18_2
       refine done_ (done_of HT_.out z18_27) ?_
       try go_wp2
       go_meet
       case rel => exact ⟨_, (true), (by first | rfl | (simp; done) | (simp [*]; done)), H', ⟨by have := HK1.out; first | omega | exact Nat.le_refl _⟩, ⟨by (with_reducible repeat (first | apply Kd.R_alloc | apply Kd.R_drewN | apply Kd.R_drew)); exact Kd.R_mono HO369.out (fun _ hk => hk.1)⟩, ⟨by (with_reducible repeat (first | apply Kd.V_alloc | apply Kd.V_drewN | apply Kd.V_drew)); exact Kd.V_mono HO_357002.out (fun _ hk => ⟨hk.1.1, ⟨hk.2, ⟨hk.1.2.1, hk.1.2.2⟩⟩⟩)⟩, ⟨by (with_reducible repeat (first | apply Kd.V_alloc | apply Kd.V_drewN | apply Kd.V_drew)); exact Kd.V_mono HO_357003.out (fun _ hk => ⟨hk.1.1, ⟨hk.2, ⟨hk.1.2.1, hk.1.2.2⟩⟩⟩)⟩, ⟨by (with_reducible repeat (first | apply Kd.V_alloc | apply Kd.V_drewN | apply Kd.V_drew)); exact Kd.V_mono HO_358002.out (fun _ hk => ⟨hk.1.1, ⟨hk.2, ⟨hk.1.2.1, hk.1.2.2⟩⟩⟩)⟩, ⟨by (with_reducible repeat (first | apply Kd.V_alloc | apply Kd.V_drewN | apply Kd.V_drew)); exact Kd.V_mono HO_358003.out (fun _ hk => ⟨hk.1.1, ⟨hk.2, ⟨hk.1.2.1, hk.1.2.2⟩⟩⟩)⟩, ⟨by (with_reducible repeat (first | refine blk_drewN ?_ _ | refine blk_drew ?_ | refine blk_alloc ?_ _)); exact BK356.out⟩, ⟨by (with_reducible repeat (first | refine blk_drewN ?_ _ | refine blk_drew ?_ | refine blk_alloc ?_ _)); exact BK357.out⟩, ⟨by repeat (first | (with_reducible first | exact HB.out | apply below_alloc | apply pw_below_drewN | apply below_drew1 | refine below_set ?_ GE356.out | refine below_set ?_ GE357.out) | exact HB.out)⟩⟩
      ·rw [if_neg c35] at H
       have c35b0 : (t371 != t372) = false := by simpa using c35
       (try (have c35b1 : decide (t371 = t372) = true := by simpa using c35))
       (try (have c35b2 : (t371 == t372) = true := by simpa using c35))
       clear c35
       (first | rw [c35b0] | (simp only [i64_w, i32_w]; rw [c35b0]) | skip)
       replace H := Option.bind_eq_some_iff.mp H
       obtain ⟨t373, A390, H⟩ := H
       replace H : (hucksterlaw05_EventPuts.j1 k1 t367 t370 (!t373) a0_0 a0_1 l0_2 l0_3) = some r := H
       have A39 := Aside0.mk A390
       clear A390
       have H' := Aside0.mk H
       clear H
       try go_wp2
       have n0_ := Aside0.mk (Kd.V_drew HO_357002.out)
       have n1_ := Aside0.mk (Kd.V_drew HO_357003.out)
       have n2_ := Aside0.mk (Kd.V_drew HO_358002.out)
       have n3_ := Aside0.mk (Kd.V_drew HO_358003.out)
       have n4_ := Aside0.mk (Kd.R_drew HO369.out)
       have n5_ := Aside0.mk (blk_drew BK356.out)
       have n6_ := Aside0.mk (blk_drew BK357.out)
       have n7_ := Aside0.mk (below_drew1 HB.out)
       clear HO_357002
       clear HO_357003
       clear HO_358002
       clear HO_358003
       clear HO369
       clear BK356
       clear BK357
       clear HB
       have HO_357002 := n0_
       have HO_357003 := n1_
       have HO_358002 := n2_
       have HO_358003 := n3_
       have HO369 := n4_
       have BK356 := n5_
       have BK357 := n6_
       have HB := n7_
       clear n0_ n1_ n2_ n3_ n4_ n5_ n6_ n7_
       refine start_ (n := 13) (S := fun w' => w'.cell? ⟨gb356, 0, none⟩ = some (.int .i64 a0_0) ∧ w'.cell? ⟨gb356, 1, none⟩ = some (.int .i64 a0_1) ∧ w'.cell? ⟨gb356, 2, none⟩ = some (.slice A0_2 l0_2.length c0_2) ∧ w'.cell? ⟨gb356, 3, none⟩ = some (.slice A0_3 l0_3.length c0_3) ∧ w'.cell? ⟨gb357, 0, none⟩ = some (.int .i64 a1_0) ∧ w'.cell? ⟨gb357, 1, none⟩ = some (.int .i64 a1_1) ∧ w'.cell? ⟨gb357, 2, none⟩ = some (.slice A1_2 l1_2.length c1_2) ∧ w'.cell? ⟨gb357, 3, none⟩ = some (.slice A1_3 l1_3.length c1_3)) (ds := []) #[false, false, false, false, false, false, false, false, false, false, false, false, false] z18_27 rfl rfl ⟨(blk_cell BK356.out 0).trans rfl, (blk_cell BK356.out 1).trans rfl, (blk_cell BK356.out 2).trans rfl, (blk_cell BK356.out 3).trans rfl, (blk_cell BK357.out 0).trans rfl, (blk_cell BK357.out 1).trans rfl, (blk_cell BK357.out 2).trans rfl, (blk_cell BK357.out 3).trans rfl⟩ (fun hHeld => ?_); refine with_tabW hucksterlaw05_EventPuts.tab9 hucksterlaw05_EventPuts.bits9 (fun HT_ HW_ => ?_)
       generalize w32.drew = w40 at HO_357002 HO_357003 HO_358002 HO_358003 HO369 BK356 BK357 HB hHeld ⊢
       refine take_ (i := 0) (N := some 42) (v := ?_) (a' := ?_) #[true, false, false, false, false, false, false, false, false, false, false, false, false] rfl rfl (take_ofW HT_.out HW_.out z18_27) (fun _ _ _ h => h) (Or.inl ⟨by rfl, ?_⟩) hHeld ?_ ?_
       rotate_left
       ·rintro w' ⟨s0, s1, s2, s3, s4, s5, s6, s7⟩
        go_simp
        with_reducible rfl
       rotate_left
       ·exact z18_2
       refine take_ (i := 1) (N := some 43) (v := ?_) (a' := ?_) #[true, true, false, false, false, false, false, false, false, false, false, false, false] rfl rfl (take_ofW HT_.out HW_.out z18_27) (fun _ _ _ h => h) (Or.inl ⟨by rfl, ?_⟩) hHeld ?_ ?_
       rotate_left
       ·rintro w' ⟨s0, s1, s2, s3, s4, s5, s6, s7⟩
        go_simp
        with_reducible rfl
       rotate_left
       ·exact z18_2
       refine take_ (i := 3) (N := some 45) (v := ?_) (a' := ?_) #[true, true, false, true, false, false, false, false, false, false, false, false, false] rfl rfl (take_ofW HT_.out HW_.out z18_27) (fun _ _ _ h => h) (Or.inl ⟨by rfl, ?_⟩) hHeld ?_ ?_
       rotate_left
       ·rintro w' ⟨s0, s1, s2, s3, s4, s5, s6, s7⟩
        go_simp
        with_reducible rfl
       rotate_left
       ·exact z18_2
       refine take_ (i := 4) (N := some 46) (v := ?_) (a' := ?_) #[true, true, false, true, true, false, false, false, false, false, false, false, false] rfl rfl (take_ofW HT_.out HW_.out z18_27) (fun _ _ _ h => h) (Or.inl ⟨by rfl, ?_⟩) hHeld ?_ ?_
       rotate_left
       ·rintro w' ⟨s0, s1, s2, s3, s4, s5, s6, s7⟩
        go_simp
        with_reducible rfl
       rotate_left
       ·exact z18_2
       refine one_ (i := 2) (N := some 44) #[true, true, true, true, true, false, false, false, false, false, false, false, false] rfl rfl (one_of HT_.out z18_27) (by decide) (fun K hK => ?_)
       refine goes_ Try.func26 z18_27 rfl #[.agg #[.int .i64 a0_0, .int .i64 a0_1, .slice A0_2 l0_2.length c0_2, .slice A0_3 l0_3.length c0_3], .agg #[.int .i64 a1_0, .int .i64 a1_1, .slice A1_2 l1_2.length c1_2, .slice A1_3 l1_3.length c1_3]] (by rfl) rfl rfl z18_5 ?_
       with_reducible refine (event_Same.calls k1 a0_0 a0_1 _ _ l0_2 _ _ l0_3 a1_0 a1_1 _ _ l1_2 _ _ l1_3 t371 _ ?side1 ?side2 ?side3 ?side4 ?side5 ?side6 ?side7 ?side8 A33.out).mono ?_
       (case side1 => exact z18_6)
       (case side2 => exact z18_25)
       (case side3 => exact z18_7)
       (case side4 => exact z18_26)
       (case side5 => exact z18_22)
       (case side6 => exact (Kd.V_reads' HO_358002.out).2.1)
       (case side7 => exact z18_23)
       (case side8 => exact (Kd.V_reads' HO_358003.out).2.1)
       rintro e w41 ⟨rfl, hb⟩
       refine ⟨_, rfl, ?_⟩
       have n0_ := Aside0.mk (Kd.V_below z18_8 hb)
       have n1_ := Aside0.mk (Kd.V_below z18_9 hb)
       have n2_ := Aside0.mk (Kd.V_below z18_10 hb)
       have n3_ := Aside0.mk (Kd.V_below z18_11 hb)
       have n4_ := Aside0.mk (Kd.R_below z18_24 hb)
       have n5_ := Aside0.mk (blk_below (g := gb356) (o := .cells #[.int .i64 a0_0, .int .i64 a0_1, .slice A0_2 l0_2.length c0_2, .slice A0_3 l0_3.length c0_3] 30 (0, 0)) z18_1 hb)
       have n6_ := Aside0.mk (blk_below (g := gb357) (o := .cells #[.int .i64 a1_0, .int .i64 a1_1, .slice A1_2 l1_2.length c1_2, .slice A1_3 l1_3.length c1_3] 30 (0, 0)) z18_3 hb)
       have n7_ := Aside0.mk (below_step z18_0 hb)
       clear HO_357002
       clear HO_357003
       clear HO_358002
       clear HO_358003
       clear HO369
       clear BK356
       clear BK357
       clear HB
       have HO_357002 := n0_
       have HO_357003 := n1_
       have HO_358002 := n2_
       have HO_358003 := n3_
       have HO369 := n4_
       have BK356 := n5_
       have BK357 := n6_
       have HB := n7_
       clear n0_ n1_ n2_ n3_ n4_ n5_ n6_ n7_
       (try clear hb)
       (try clear hb2)
       (try clear hk)
       (try clear hi)
       refine hK.out _ _ ⟨(blk_cell BK356.out 0).trans rfl, (blk_cell BK356.out 1).trans rfl, (blk_cell BK356.out 2).trans rfl, (blk_cell BK356.out 3).trans rfl, (blk_cell BK357.out 0).trans rfl, (blk_cell BK357.out 1).trans rfl, (blk_cell BK357.out 2).trans rfl, (blk_cell BK357.out 3).trans rfl⟩ (fun hHeld => ?_)
       clear hK K
       refine norm_ (a' := ?_) ?_ ?_
       rotate_left
       ·show Act.put _ (some 44) _ = _; simp only [Act.put, List.setIfInBounds_toArray, List.set_cons_zero, List.set_cons_succ, i64_w, i32_w]; rfl
       refine one_ (i := 5) (N := some 47) #[true, true, true, true, true, true, false, false, false, false, false, false, false] rfl rfl (one_of HT_.out z18_27) (by decide) (fun K hK => ?_)
       refine goes_ Try.func15 z18_27 rfl #[.agg #[.int .i64 a0_0, .int .i64 a0_1, .slice A0_2 l0_2.length c0_2, .slice A0_3 l0_3.length c0_3], .agg #[.int .i64 a1_0, .int .i64 a1_1, .slice A1_2 l1_2.length c1_2, .slice A1_3 l1_3.length c1_3]] (by rfl) rfl rfl z18_5 ?_
       with_reducible refine (hucksterref05_Same.calls k1 a0_0 a0_1 _ _ l0_2 _ _ l0_3 a1_0 a1_1 _ _ l1_2 _ _ l1_3 t372 _ ?side1 ?side2 ?side3 ?side4 ?side5 ?side6 ?side7 ?side8 A34.out).mono ?_
       (case side1 => exact z18_6)
       (case side2 => exact z18_25)
       (case side3 => exact z18_7)
       (case side4 => exact z18_26)
       (case side5 => exact z18_22)
       (case side6 => exact (Kd.V_reads' HO_358002.out).2.1)
       (case side7 => exact z18_23)
       (case side8 => exact (Kd.V_reads' HO_358003.out).2.1)
       rintro e w42 ⟨rfl, hb⟩
       refine ⟨_, rfl, ?_⟩
       have n0_ := Aside0.mk (Kd.V_below z18_8 hb)
       have n1_ := Aside0.mk (Kd.V_below z18_9 hb)
       have n2_ := Aside0.mk (Kd.V_below z18_10 hb)
       have n3_ := Aside0.mk (Kd.V_below z18_11 hb)
       have n4_ := Aside0.mk (Kd.R_below z18_24 hb)
       have n5_ := Aside0.mk (blk_below (g := gb356) (o := .cells #[.int .i64 a0_0, .int .i64 a0_1, .slice A0_2 l0_2.length c0_2, .slice A0_3 l0_3.length c0_3] 30 (0, 0)) z18_1 hb)
       have n6_ := Aside0.mk (blk_below (g := gb357) (o := .cells #[.int .i64 a1_0, .int .i64 a1_1, .slice A1_2 l1_2.length c1_2, .slice A1_3 l1_3.length c1_3] 30 (0, 0)) z18_3 hb)
       have n7_ := Aside0.mk (below_step z18_0 hb)
       clear HO_357002
       clear HO_357003
       clear HO_358002
       clear HO_358003
       clear HO369
       clear BK356
       clear BK357
       clear HB
       have HO_357002 := n0_
       have HO_357003 := n1_
       have HO_358002 := n2_
       have HO_358003 := n3_
       have HO369 := n4_
       have BK356 := n5_
       have BK357 := n6_
       have HB := n7_
       clear n0_ n1_ n2_ n3_ n4_ n5_ n6_ n7_
       (try clear hb)
       (try clear hb2)
       (try clear hk)
       (try clear hi)
       refine hK.out _ _ ⟨(blk_cell BK356.out 0).trans rfl, (blk_cell BK356.out 1).trans rfl, (blk_cell BK356.out 2).trans rfl, (blk_cell BK356.out 3).trans rfl, (blk_cell BK357.out 0).trans rfl, (blk_cell BK357.out 1).trans rfl, (blk_cell BK357.out 2).trans rfl, (blk_cell BK357.out 3).trans rfl⟩ (fun hHeld => ?_)
       clear hK K
       refine norm_ (a' := ?_) ?_ ?_
       rotate_left
       ·show Act.put _ (some 47) _ = _; simp only [Act.put, List.setIfInBounds_toArray, List.set_cons_zero, List.set_cons_succ, i64_w, i32_w]; rfl
       refine pure_ (i := 6) (N := some 48) (v := ?_) (a' := ?_) #[true, true, true, true, true, true, true, false, false, false, false, false, false] rfl rfl (any_of HT_.out z18_27) (fun _ _ _ h => h) (Or.inl ⟨by rfl, ?_⟩) ?_ ?_
       rotate_left
       ·intro w'
        go_simp
        with_reducible rfl
       rotate_left
       ·exact z18_2
       refine pure_ (i := 7) (N := some 49) (v := ?_) (a' := ?_) #[true, true, true, true, true, true, true, true, false, false, false, false, false] rfl rfl (any_of HT_.out z18_27) (fun _ _ _ h => h) (Or.inl ⟨by rfl, ?_⟩) ?_ ?_
       rotate_left
       ·intro w'
        go_simp
        with_reducible rfl
       rotate_left
       ·exact z18_2
       refine take_ (i := 8) (N := some 50) (v := ?_) (a' := ?_) #[true, true, true, true, true, true, true, true, true, false, false, false, false] rfl rfl (take_ofW HT_.out HW_.out z18_27) (fun _ _ _ h => h) (Or.inl ⟨by rfl, ?_⟩) hHeld ?_ ?_
       rotate_left
       ·rintro w' ⟨s0, s1, s2, s3, s4, s5, s6, s7⟩
        go_simp
        with_reducible rfl
       rotate_left
       ·exact z18_2
       refine take_ (i := 9) (N := some 51) (v := ?_) (a' := ?_) #[true, true, true, true, true, true, true, true, true, true, false, false, false] rfl rfl (take_ofW HT_.out HW_.out z18_27) (fun _ _ _ h => h) (Or.inl ⟨by rfl, ?_⟩) hHeld ?_ ?_
       rotate_left
       ·rintro w' ⟨s0, s1, s2, s3, s4, s5, s6, s7⟩
        go_simp
        with_reducible rfl
       rotate_left
       ·exact z18_2
       refine one_ (i := 10) (N := some 52) #[true, true, true, true, true, true, true, true, true, true, true, false, false] rfl rfl (one_of HT_.out z18_27) (by decide) (fun K hK => ?_)
       refine goes_ Try.func26 z18_27 rfl #[.agg #[.int .i64 a0_0, .int .i64 a0_1, .slice A0_2 l0_2.length c0_2, .slice A0_3 l0_3.length c0_3], .agg #[.int .i64 a0_0, .int .i64 a0_1, .slice A0_2 l0_2.length c0_2, .slice A0_3 l0_3.length c0_3]] (by rfl) rfl rfl z18_5 ?_
       with_reducible refine (event_Same.calls k1 a0_0 a0_1 _ _ l0_2 _ _ l0_3 a0_0 a0_1 _ _ l0_2 _ _ l0_3 t373 _ ?side1 ?side2 ?side3 ?side4 ?side5 ?side6 ?side7 ?side8 A39.out).mono ?_
       (case side1 => exact z18_6)
       (case side2 => exact z18_25)
       (case side3 => exact z18_7)
       (case side4 => exact z18_26)
       (case side5 => exact z18_6)
       (case side6 => exact z18_25)
       (case side7 => exact z18_7)
       (case side8 => exact z18_26)
       rintro e w43 ⟨rfl, hb⟩
       refine ⟨_, rfl, ?_⟩
       have n0_ := Aside0.mk (Kd.V_below z18_8 hb)
       have n1_ := Aside0.mk (Kd.V_below z18_9 hb)
       have n2_ := Aside0.mk (Kd.V_below z18_10 hb)
       have n3_ := Aside0.mk (Kd.V_below z18_11 hb)
       have n4_ := Aside0.mk (Kd.R_below z18_24 hb)
       have n5_ := Aside0.mk (blk_below (g := gb356) (o := .cells #[.int .i64 a0_0, .int .i64 a0_1, .slice A0_2 l0_2.length c0_2, .slice A0_3 l0_3.length c0_3] 30 (0, 0)) z18_1 hb)
       have n6_ := Aside0.mk (blk_below (g := gb357) (o := .cells #[.int .i64 a1_0, .int .i64 a1_1, .slice A1_2 l1_2.length c1_2, .slice A1_3 l1_3.length c1_3] 30 (0, 0)) z18_3 hb)
       have n7_ := Aside0.mk (below_step z18_0 hb)
       clear HO_357002
       clear HO_357003
       clear HO_358002
       clear HO_358003
       clear HO369
       clear BK356
       clear BK357
       clear HB
       have HO_357002 := n0_
       have HO_357003 := n1_
       have HO_358002 := n2_
       have HO_358003 := n3_
       have HO369 := n4_
       have BK356 := n5_
       have BK357 := n6_
       have HB := n7_
       clear n0_ n1_ n2_ n3_ n4_ n5_ n6_ n7_
       (try clear hb)
       (try clear hb2)
       (try clear hk)
       (try clear hi)
       refine hK.out _ _ ⟨(blk_cell BK356.out 0).trans rfl, (blk_cell BK356.out 1).trans rfl, (blk_cell BK356.out 2).trans rfl, (blk_cell BK356.out 3).trans rfl, (blk_cell BK357.out 0).trans rfl, (blk_cell BK357.out 1).trans rfl, (blk_cell BK357.out 2).trans rfl, (blk_cell BK357.out 3).trans rfl⟩ (fun hHeld => ?_)
       clear hK K
       refine norm_ (a' := ?_) ?_ ?_
       rotate_left
       ·show Act.put _ (some 52) _ = _; simp only [Act.put, List.setIfInBounds_toArray, List.set_cons_zero, List.set_cons_succ, i64_w, i32_w]; rfl
       refine pure_ (i := 11) (N := some 53) (v := ?_) (a' := ?_) #[true, true, true, true, true, true, true, true, true, true, true, true, false] rfl rfl (any_of HT_.out z18_27) (fun _ _ _ h => h) (Or.inl ⟨by rfl, ?_⟩) ?_ ?_
       rotate_left
       ·intro w'
        go_simp
        with_reducible rfl
       rotate_left
       ·exact z18_2
       refine pure_ (i := 12) (N := some 54) (v := ?_) (a' := ?_) #[true, true, true, true, true, true, true, true, true, true, true, true, true] rfl rfl (any_of HT_.out z18_27) (fun _ _ _ h => h) (Or.inl ⟨by rfl, ?_⟩) ?_ ?_
       rotate_left
       ·intro w'
        go_simp
        with_reducible rfl
       rotate_left
       ·exact z18_2
       refine done_ (done_of HT_.out z18_27) ?_
       try go_wp2
       go_meet
       case rel => exact ⟨_, (!t373), (by first | rfl | (simp; done) | (simp [*]; done)), H', ⟨by have := HK1.out; first | omega | exact Nat.le_refl _⟩, ⟨by (with_reducible repeat (first | apply Kd.R_alloc | apply Kd.R_drewN | apply Kd.R_drew)); exact Kd.R_mono HO369.out (fun _ hk => hk.1)⟩, ⟨by (with_reducible repeat (first | apply Kd.V_alloc | apply Kd.V_drewN | apply Kd.V_drew)); exact Kd.V_mono HO_357002.out (fun _ hk => ⟨hk.1.1, ⟨hk.2, ⟨hk.1.2.1, hk.1.2.2⟩⟩⟩)⟩, ⟨by (with_reducible repeat (first | apply Kd.V_alloc | apply Kd.V_drewN | apply Kd.V_drew)); exact Kd.V_mono HO_357003.out (fun _ hk => ⟨hk.1.1, ⟨hk.2, ⟨hk.1.2.1, hk.1.2.2⟩⟩⟩)⟩, ⟨by (with_reducible repeat (first | apply Kd.V_alloc | apply Kd.V_drewN | apply Kd.V_drew)); exact Kd.V_mono HO_358002.out (fun _ hk => ⟨hk.1.1, ⟨hk.2, ⟨hk.1.2.1, hk.1.2.2⟩⟩⟩)⟩, ⟨by (with_reducible repeat (first | apply Kd.V_alloc | apply Kd.V_drewN | apply Kd.V_drew)); exact Kd.V_mono HO_358003.out (fun _ hk => ⟨hk.1.1, ⟨hk.2, ⟨hk.1.2.1, hk.1.2.2⟩⟩⟩)⟩, ⟨by (with_reducible repeat (first | refine blk_drewN ?_ _ | refine blk_drew ?_ | refine blk_alloc ?_ _)); exact BK356.out⟩, ⟨by (with_reducible repeat (first | refine blk_drewN ?_ _ | refine blk_drew ?_ | refine blk_alloc ?_ _)); exact BK357.out⟩, ⟨by repeat (first | (with_reducible first | exact HB.out | apply below_alloc | apply pw_below_drewN | apply below_drew1 | refine below_set ?_ GE356.out | refine below_set ?_ GE357.out) | exact HB.out)⟩⟩
     case rest =>
      clear HC29
      try clear c1
      try clear c2
      try clear p2
      try clear c3
      try clear p6
      try clear c13
      try clear c13b0
      try clear c14
      try clear c15
      try clear c22
      try clear c25
      try clear c26
      try clear c30
      try clear c35
      try clear c35b0
      try clear c35b1
      try clear c35b2
      try clear hcz31_0
      try clear hcz31_1
      try clear hcz31_2
      try clear hcz31_3
      try clear hfz31_0
      try clear hfz31_1
      try clear hfz31_2
      try clear hfz31_3
      obtain ⟨kq, x54_28, rfl, HA, HJ28, HO_6, HO_357002, HO_357003, HO_358002, HO_358003, BK356, BK357, HB⟩ := hcut
      cases kq with
      | zero => exact absurd HA.out (by simp [hucksterlaw05_EventPuts.j1])
      | succ kj28 =>
       have H := HA.out
       clear HA
       simp only [hucksterlaw05_EventPuts.j1] at H
       by_cases c44 : x54_28 = true
       ·subst c44
        have H1 : (some false) = some r := by rw [if_pos rfl] at H; exact H
        exact absurd (HRT_.out.symm.trans (Option.some.inj H1).symm) (by simp)
       ·replace c44 := Bool.eq_false_iff.mpr c44
        subst c44
        have H1 : ((hucksterref05_May.f kj28 a0_0 a0_1 l0_2 l0_3).bind fun t374 => (if t374 = true then ((event_Get.f kj28 t367).bind fun bt377 => ((event_Check.f kj28 a0_0 a0_1 l0_2 l0_3).bind fun t387 => (if t387 = 0 then (if t370 = 0 then ((hucksterref05_Put.f kj28 a0_0 a0_1 l0_2 l0_3).bind fun t388 => ((hucksterref02_Bytes.f kj28 t367 t388).bind fun t391 => (if t391 = true then (if bt377.2.2.2.2 = 0 then ((hucksterref05_Same.f kj28 bt377.1 bt377.2.1 bt377.2.2.1 bt377.2.2.2.1 a0_0 a0_1 l0_2 l0_3).bind fun t392 => (if t392 = true then ((hucksterlaw05_awake.f kj28).bind fun t393 => (some t393)) else (some false))) else (some false)) else (some false)))) else (some false)) else (some false)))) else ((event_Check.f kj28 a0_0 a0_1 l0_2 l0_3).bind fun t375 => (if t375 = 1 then (if t370 = 1 then (if (t367.length : Int) = 0 then ((hucksterlaw05_awake.f kj28).bind fun t376 => (some t376)) else (some false)) else (some false)) else (some false))))) = some r := by rw [if_neg (show ¬ (false = true) by decide)] at H; exact H
        clear H
        have H := H1
        clear H1
        replace H := Option.bind_eq_some_iff.mp H
        obtain ⟨t374, A450, H⟩ := H
        replace H : (if t374 = true then ((event_Get.f kj28 t367).bind fun bt377 => ((event_Check.f kj28 a0_0 a0_1 l0_2 l0_3).bind fun t387 => (if t387 = 0 then (if t370 = 0 then ((hucksterref05_Put.f kj28 a0_0 a0_1 l0_2 l0_3).bind fun t388 => ((hucksterref02_Bytes.f kj28 t367 t388).bind fun t391 => (if t391 = true then (if bt377.2.2.2.2 = 0 then ((hucksterref05_Same.f kj28 bt377.1 bt377.2.1 bt377.2.2.1 bt377.2.2.2.1 a0_0 a0_1 l0_2 l0_3).bind fun t392 => (if t392 = true then ((hucksterlaw05_awake.f kj28).bind fun t393 => (some t393)) else (some false))) else (some false)) else (some false)))) else (some false)) else (some false)))) else ((event_Check.f kj28 a0_0 a0_1 l0_2 l0_3).bind fun t375 => (if t375 = 1 then (if t370 = 1 then (if (t367.length : Int) = 0 then ((hucksterlaw05_awake.f kj28).bind fun t376 => (some t376)) else (some false)) else (some false)) else (some false)))) = some r := H
        have A45 := Aside0.mk A450
        clear A450
        by_cases c46 : t374 = true
        ·subst c46
         have H1 : ((event_Get.f kj28 t367).bind fun bt377 => ((event_Check.f kj28 a0_0 a0_1 l0_2 l0_3).bind fun t387 => (if t387 = 0 then (if t370 = 0 then ((hucksterref05_Put.f kj28 a0_0 a0_1 l0_2 l0_3).bind fun t388 => ((hucksterref02_Bytes.f kj28 t367 t388).bind fun t391 => (if t391 = true then (if bt377.2.2.2.2 = 0 then ((hucksterref05_Same.f kj28 bt377.1 bt377.2.1 bt377.2.2.1 bt377.2.2.2.1 a0_0 a0_1 l0_2 l0_3).bind fun t392 => (if t392 = true then ((hucksterlaw05_awake.f kj28).bind fun t393 => (some t393)) else (some false))) else (some false)) else (some false)))) else (some false)) else (some false)))) = some r := by rw [if_pos rfl] at H; exact H
         clear H
         have H := H1
         clear H1
         replace H := Option.bind_eq_some_iff.mp H
         obtain ⟨⟨t377, t378, t379, t382, t385⟩, A470, H⟩ := H
         replace H : ((event_Check.f kj28 a0_0 a0_1 l0_2 l0_3).bind fun t387 => (if t387 = 0 then (if t370 = 0 then ((hucksterref05_Put.f kj28 a0_0 a0_1 l0_2 l0_3).bind fun t388 => ((hucksterref02_Bytes.f kj28 t367 t388).bind fun t391 => (if t391 = true then (if t385 = 0 then ((hucksterref05_Same.f kj28 t377 t378 t379 t382 a0_0 a0_1 l0_2 l0_3).bind fun t392 => (if t392 = true then ((hucksterlaw05_awake.f kj28).bind fun t393 => (some t393)) else (some false))) else (some false)) else (some false)))) else (some false)) else (some false))) = some r := H
         have A47 := Aside0.mk A470
         clear A470
         replace H := Option.bind_eq_some_iff.mp H
         obtain ⟨t387, A480, H⟩ := H
         replace H : (if t387 = 0 then (if t370 = 0 then ((hucksterref05_Put.f kj28 a0_0 a0_1 l0_2 l0_3).bind fun t388 => ((hucksterref02_Bytes.f kj28 t367 t388).bind fun t391 => (if t391 = true then (if t385 = 0 then ((hucksterref05_Same.f kj28 t377 t378 t379 t382 a0_0 a0_1 l0_2 l0_3).bind fun t392 => (if t392 = true then ((hucksterlaw05_awake.f kj28).bind fun t393 => (some t393)) else (some false))) else (some false)) else (some false)))) else (some false)) else (some false)) = some r := H
         have A48 := Aside0.mk A480
         clear A480
         by_cases c49 : t387 = 0
         ·rw [if_pos c49] at H
          have c49b0 : (t387 == 0) = true := beq_iff_eq.mpr c49
          have c49b1 : (t387 != 0) = false := bne_eq_false_iff_eq.mpr c49
          clear c49
          by_cases c50 : t370 = 0
          ·rw [if_pos c50] at H
           have c50b0 : (t370 == 0) = true := beq_iff_eq.mpr c50
           have c50b1 : (t370 != 0) = false := bne_eq_false_iff_eq.mpr c50
           clear c50
           replace H := Option.bind_eq_some_iff.mp H
           obtain ⟨t388, A510, H⟩ := H
           replace H : ((hucksterref02_Bytes.f kj28 t367 t388).bind fun t391 => (if t391 = true then (if t385 = 0 then ((hucksterref05_Same.f kj28 t377 t378 t379 t382 a0_0 a0_1 l0_2 l0_3).bind fun t392 => (if t392 = true then ((hucksterlaw05_awake.f kj28).bind fun t393 => (some t393)) else (some false))) else (some false)) else (some false))) = some r := H
           have A51 := Aside0.mk A510
           clear A510
           replace H := Option.bind_eq_some_iff.mp H
           obtain ⟨t391, A520, H⟩ := H
           replace H : (if t391 = true then (if t385 = 0 then ((hucksterref05_Same.f kj28 t377 t378 t379 t382 a0_0 a0_1 l0_2 l0_3).bind fun t392 => (if t392 = true then ((hucksterlaw05_awake.f kj28).bind fun t393 => (some t393)) else (some false))) else (some false)) else (some false)) = some r := H
           have A52 := Aside0.mk A520
           clear A520
           by_cases c53 : t391 = true
           ·subst c53
            have H1 : (if t385 = 0 then ((hucksterref05_Same.f kj28 t377 t378 t379 t382 a0_0 a0_1 l0_2 l0_3).bind fun t392 => (if t392 = true then ((hucksterlaw05_awake.f kj28).bind fun t393 => (some t393)) else (some false))) else (some false)) = some r := by rw [if_pos rfl] at H; exact H
            clear H
            have H := H1
            clear H1
            by_cases c54 : t385 = 0
            ·rw [if_pos c54] at H
             have c54b0 : (t385 == 0) = true := beq_iff_eq.mpr c54
             have c54b1 : (t385 != 0) = false := bne_eq_false_iff_eq.mpr c54
             clear c54
             replace H := Option.bind_eq_some_iff.mp H
             obtain ⟨t392, A550, H⟩ := H
             replace H : (if t392 = true then ((hucksterlaw05_awake.f kj28).bind fun t393 => (some t393)) else (some false)) = some r := H
             have A55 := Aside0.mk A550
             clear A550
             by_cases c56 : t392 = true
             ·subst c56
              have H1 : ((hucksterlaw05_awake.f kj28).bind fun t393 => (some t393)) = some r := by rw [if_pos rfl] at H; exact H
              clear H
              have H := H1
              clear H1
              replace H := Option.bind_eq_some_iff.mp H
              obtain ⟨t393, A570, H⟩ := H
              replace H : (some t393) = some r := H
              have A57 := Aside0.mk A570
              clear A570
              obtain rfl := Option.some.inj H
              have hnb58 := NB356_357.out
              have hnc58 := NB357_356.out
              have hcz59_0 : wc.cell? ⟨gb356, 0, none⟩ = some (.int .i64 a0_0) := (blk_cell BK356.out 0).trans rfl
              have hcz59_1 : wc.cell? ⟨gb356, 1, none⟩ = some (.int .i64 a0_1) := (blk_cell BK356.out 1).trans rfl
              have hcz59_2 : wc.cell? ⟨gb356, 2, none⟩ = some (.slice A0_2 l0_2.length c0_2) := (blk_cell BK356.out 2).trans rfl
              have hcz59_3 : wc.cell? ⟨gb356, 3, none⟩ = some (.slice A0_3 l0_3.length c0_3) := (blk_cell BK356.out 3).trans rfl
              have hfz59_0 := blk_frozen BK356.out 0
              have hfz59_1 := blk_frozen BK356.out 1
              have hfz59_2 := blk_frozen BK356.out 2
              have hfz59_3 := blk_frozen BK356.out 3
              go_wp2_with (first | ((with_reducible refine gate_callee (f := 17) rfl ?_); refine goesL_ (some 56) rfl rfl Try.func17 z18_27 rfl #[.agg #[.int .i64 a0_0, .int .i64 a0_1, .slice A0_2 l0_2.length c0_2, .slice A0_3 l0_3.length c0_3]] rfl z18_5 ?_; (with_reducible refine (hucksterref05_May.calls kj28 a0_0 a0_1 _ _ l0_2 _ _ l0_3 true _ ?side1 ?side2 ?side3 ?side4 A45.out).mono ?_); (case side1 => exact z18_6); (case side2 => exact z18_25); (case side3 => exact z18_7); (case side4 => exact z18_26); rintro e w60 ⟨rfl, hb⟩; refine ⟨_, rfl, ?_⟩; have n0_ := Aside0.mk (Kd.R_below z18_13 hb); have n1_ := Aside0.mk (Kd.V_below z18_8 hb); have n2_ := Aside0.mk (Kd.V_below z18_9 hb); have n3_ := Aside0.mk (Kd.V_below z18_10 hb); have n4_ := Aside0.mk (Kd.V_below z18_11 hb); have n5_ := Aside0.mk (blk_below (g := gb356) (o := .cells #[.int .i64 a0_0, .int .i64 a0_1, .slice A0_2 l0_2.length c0_2, .slice A0_3 l0_3.length c0_3] 30 (0, 0)) z18_1 hb); have n6_ := Aside0.mk (blk_below (g := gb357) (o := .cells #[.int .i64 a1_0, .int .i64 a1_1, .slice A1_2 l1_2.length c1_2, .slice A1_3 l1_3.length c1_3] 30 (0, 0)) z18_3 hb); have n7_ := Aside0.mk (below_step z18_0 hb); clear HO_6; clear HO_357002; clear HO_357003; clear HO_358002; clear HO_358003; clear BK356; clear BK357; clear HB; have HO_6 := n0_; have HO_357002 := n1_; have HO_357003 := n2_; have HO_358002 := n3_; have HO_358003 := n4_; have BK356 := n5_; have BK357 := n6_; have HB := n7_; clear n0_ n1_ n2_ n3_ n4_ n5_ n6_ n7_; (try clear hb); (try clear hb2); (try clear hk); (try clear hi); obtain ⟨Ao61, co61, eo61⟩ := Kd.R_slice HO_6.out; subst eo61) | ((with_reducible refine gate_callee (f := 13) rfl ?_); refine goesL_ (some 75) rfl rfl Try.func13 z18_27 rfl #[.slice Ao61 t367.length co61] rfl z18_5 ?_; (with_reducible refine (event_Get.calls kj28 _ _ t367 t377 t378 t379 t382 t385 _ ?side1 ?side2 A47.out).mono ?_); (case side1 => exact z18_33); (case side2 => exact (Kd.R_reads' HO_6.out).2.1); rintro e w62 ⟨v380, v383, rfl, ho0, ho1, hb⟩; refine ⟨_, rfl, ?_⟩; have n0_ := Aside0.mk (Kd.R_below z18_13 hb); have n1_ := Aside0.mk (Kd.V_mono (Kd.V_told (Kd.V_told (Kd.V_old z18_8 hb) (Kd.R_base ho0)) (Kd.R_base ho1)) (fun _ h_ => h_.1)); have n2_ := Aside0.mk (Kd.V_mono (Kd.V_told (Kd.V_told (Kd.V_old z18_9 hb) (Kd.R_base ho0)) (Kd.R_base ho1)) (fun _ h_ => h_.1)); have n3_ := Aside0.mk (Kd.V_mono (Kd.V_told (Kd.V_told (Kd.V_old z18_10 hb) (Kd.R_base ho0)) (Kd.R_base ho1)) (fun _ h_ => h_.1)); have n4_ := Aside0.mk (Kd.V_mono (Kd.V_told (Kd.V_told (Kd.V_old z18_11 hb) (Kd.R_base ho0)) (Kd.R_base ho1)) (fun _ h_ => h_.1)); have n5_ := Aside0.mk (Kd.R_lower (Kd.R_newM (M := fun k_ => (w.heap.size ≤ k_)) ho0 (below_size z18_0) (fun k_ h_ => h_)) (below_size z18_0)); have n6_ := Aside0.mk (Kd.R_lower (Kd.R_newM (M := fun k_ => (w.heap.size ≤ k_)) ho1 (below_size z18_0) (fun k_ h_ => h_)) (below_size z18_0)); have n7_ := Aside0.mk (blk_below (g := gb356) (o := .cells #[.int .i64 a0_0, .int .i64 a0_1, .slice A0_2 l0_2.length c0_2, .slice A0_3 l0_3.length c0_3] 30 (0, 0)) z18_1 hb); have n8_ := Aside0.mk (blk_below (g := gb357) (o := .cells #[.int .i64 a1_0, .int .i64 a1_1, .slice A1_2 l1_2.length c1_2, .slice A1_3 l1_3.length c1_3] 30 (0, 0)) z18_3 hb); have n9_ := Aside0.mk (below_step z18_0 hb); clear HO_6; clear HO_357002; clear HO_357003; clear HO_358002; clear HO_358003; clear BK356; clear BK357; clear HB; have HO_6 := n0_; have HO_357002 := n1_; have HO_357003 := n2_; have HO_358002 := n3_; have HO_358003 := n4_; have HO381 := n5_; have HO384 := n6_; have BK356 := n7_; have BK357 := n8_; have HB := n9_; clear n0_ n1_ n2_ n3_ n4_ n5_ n6_ n7_ n8_ n9_; (try clear hb); (try clear hb2); (try clear hk); (try clear hi); (try clear ho0); (try clear ho1)) | ((with_reducible refine gate_dst (N := 8) rfl ?_); (try (refine gate_guard (by rfl) ?_; dsimp only)); refine box_event ?hg (N := 8) ?hd (cs := #[.int .i64 0, .int .i64 0, .slice none 0 0, .slice none 0 0]) (t := 30) ?hr ?_; (case hd => rfl); (case hg => rfl); (case hr => exact z18_31); intro gb386 hg w63 hbox hb; have n0_ := Aside0.mk (Kd.R_below z18_13 hb); have n1_ := Aside0.mk (Kd.V_below (Kd.V_elderB z18_8 gb386 (Nat.le_of_eq hg.symm)) hb); have n2_ := Aside0.mk (Kd.V_below (Kd.V_elderB z18_9 gb386 (Nat.le_of_eq hg.symm)) hb); have n3_ := Aside0.mk (Kd.V_below (Kd.V_elderB z18_10 gb386 (Nat.le_of_eq hg.symm)) hb); have n4_ := Aside0.mk (Kd.V_below (Kd.V_elderB z18_11 gb386 (Nat.le_of_eq hg.symm)) hb); have n5_ := Aside0.mk (Kd.R_below z18_28 hb); have n6_ := Aside0.mk (Kd.R_below z18_29 hb); have n7_ := Aside0.mk (blk_below (g := gb356) (o := .cells #[.int .i64 a0_0, .int .i64 a0_1, .slice A0_2 l0_2.length c0_2, .slice A0_3 l0_3.length c0_3] 30 (0, 0)) z18_1 hb); have n8_ := Aside0.mk (blk_below (g := gb357) (o := .cells #[.int .i64 a1_0, .int .i64 a1_1, .slice A1_2 l1_2.length c1_2, .slice A1_3 l1_3.length c1_3] 30 (0, 0)) z18_3 hb); have n9_ := Aside0.mk (below_step z18_0 hb); have n10_ := Aside0.mk (hbox); have n11_ := Aside0.mk ((by rw [hg]; exact (below_size z18_0) : w.heap.size ≤ gb386)); have n12_ := Aside0.mk ((by rw [hg]; exact (below_size z18_0) : w.heap.size ≤ gb386)); have n13_ := Aside0.mk ((by rw [hg]; exact Nat.ne_of_lt (blk_lt (g := gb356) (o := .cells #[.int .i64 a0_0, .int .i64 a0_1, .slice A0_2 l0_2.length c0_2, .slice A0_3 l0_3.length c0_3] 30 (0, 0)) z18_1) : gb356 ≠ gb386)); have n14_ := Aside0.mk ((by rw [hg]; exact Nat.ne_of_gt (blk_lt (g := gb356) (o := .cells #[.int .i64 a0_0, .int .i64 a0_1, .slice A0_2 l0_2.length c0_2, .slice A0_3 l0_3.length c0_3] 30 (0, 0)) z18_1) : gb386 ≠ gb356)); have n15_ := Aside0.mk ((by rw [hg]; exact Nat.ne_of_lt (blk_lt (g := gb357) (o := .cells #[.int .i64 a1_0, .int .i64 a1_1, .slice A1_2 l1_2.length c1_2, .slice A1_3 l1_3.length c1_3] 30 (0, 0)) z18_3) : gb357 ≠ gb386)); have n16_ := Aside0.mk ((by rw [hg]; exact Nat.ne_of_gt (blk_lt (g := gb357) (o := .cells #[.int .i64 a1_0, .int .i64 a1_1, .slice A1_2 l1_2.length c1_2, .slice A1_3 l1_3.length c1_3] 30 (0, 0)) z18_3) : gb386 ≠ gb357)); clear HO_6; clear HO_357002; clear HO_357003; clear HO_358002; clear HO_358003; clear HO381; clear HO384; clear BK356; clear BK357; clear HB; have HO_6 := n0_; have HO_357002 := n1_; have HO_357003 := n2_; have HO_358002 := n3_; have HO_358003 := n4_; have HO381 := n5_; have HO384 := n6_; have BK356 := n7_; have BK357 := n8_; have HB := n9_; have BK386 := n10_; have GW386 := n11_; have GE386 := n12_; have NB356_386 := n13_; have NB386_356 := n14_; have NB357_386 := n15_; have NB386_357 := n16_; clear n0_ n1_ n2_ n3_ n4_ n5_ n6_ n7_ n8_ n9_ n10_ n11_ n12_ n13_ n14_ n15_ n16_; clear hb hbox hg; have hnb64 := NB386_356.out; have hnc64 := NB356_386.out; have hnb65 := NB386_357.out; have hnc65 := NB357_386.out; have hcz66_0 : w63.cell? ⟨gb386, 0, none⟩ = some (.int .i64 0) := (blk_cell BK386.out 0).trans rfl; have hcz66_1 : w63.cell? ⟨gb386, 1, none⟩ = some (.int .i64 0) := (blk_cell BK386.out 1).trans rfl; have hcz66_2 : w63.cell? ⟨gb386, 2, none⟩ = some (.slice none 0 0) := (blk_cell BK386.out 2).trans rfl; have hcz66_3 : w63.cell? ⟨gb386, 3, none⟩ = some (.slice none 0 0) := (blk_cell BK386.out 3).trans rfl; have hfz66_0 := blk_frozen BK386.out 0; have hfz66_1 := blk_frozen BK386.out 1; have hfz66_2 := blk_frozen BK386.out 2; have hfz66_3 := blk_frozen BK386.out 3; obtain ⟨Ao67, co67, eo67⟩ := Kd.R_slice HO381.out; subst eo67; obtain ⟨Ao68, co68, eo68⟩ := Kd.R_slice HO384.out; subst eo68; have hcz69_0 : w63.cell? ⟨gb356, 0, none⟩ = some (.int .i64 a0_0) := (blk_cell BK356.out 0).trans rfl; have hcz69_1 : w63.cell? ⟨gb356, 1, none⟩ = some (.int .i64 a0_1) := (blk_cell BK356.out 1).trans rfl; have hcz69_2 : w63.cell? ⟨gb356, 2, none⟩ = some (.slice A0_2 l0_2.length c0_2) := (blk_cell BK356.out 2).trans rfl; have hcz69_3 : w63.cell? ⟨gb356, 3, none⟩ = some (.slice A0_3 l0_3.length c0_3) := (blk_cell BK356.out 3).trans rfl; have hfz69_0 := blk_frozen BK356.out 0; have hfz69_1 := blk_frozen BK356.out 1; have hfz69_2 := blk_frozen BK356.out 2; have hfz69_3 := blk_frozen BK356.out 3) | ((with_reducible refine gate_callee (f := 27) rfl ?_); refine goesL_ (some 79) rfl rfl Try.func27 z18_27 rfl #[.agg #[.int .i64 a0_0, .int .i64 a0_1, .slice A0_2 l0_2.length c0_2, .slice A0_3 l0_3.length c0_3]] rfl z18_5 ?_; (with_reducible refine (event_Check.calls kj28 a0_0 a0_1 _ _ l0_2 _ _ l0_3 t387 _ ?side1 ?side2 ?side3 ?side4 A48.out).mono ?_); (case side1 => refine (Kd.V_reads' (e := 3) (base := w.heap.size) (ok := fun k_ => ((((((P0_2_ k_ ∨ P0_3_ k_ ∨ P1_2_ k_ ∨ P1_3_ k_) ∨ w.heap.size ≤ k_) ∧ (some k_ ≠ (.slice Ao61 t367.length co61 : Value).ownBlock ∧ (k_ ≠ gb356 ∧ k_ ≠ gb357))) ∧ some k_ ≠ (.slice Ao67 t379.length co67 : Value).ownBlock) ∧ some k_ ≠ (.slice Ao68 t382.length co68 : Value).ownBlock) ∧ k_ ≠ gb386)) (n := l0_2.length) (c := c0_2) ?_).2.2; exact z18_20); (case side2 => exact z18_25); (case side3 => refine (Kd.V_reads' (e := 48) (base := w.heap.size) (ok := fun k_ => ((((((P0_2_ k_ ∨ P0_3_ k_ ∨ P1_2_ k_ ∨ P1_3_ k_) ∨ w.heap.size ≤ k_) ∧ (some k_ ≠ (.slice Ao61 t367.length co61 : Value).ownBlock ∧ (k_ ≠ gb356 ∧ k_ ≠ gb357))) ∧ some k_ ≠ (.slice Ao67 t379.length co67 : Value).ownBlock) ∧ some k_ ≠ (.slice Ao68 t382.length co68 : Value).ownBlock) ∧ k_ ≠ gb386)) (n := l0_3.length) (c := c0_3) ?_).2.2; exact z18_21); (case side4 => exact z18_26); rintro e w70 ⟨rfl, hb⟩; refine ⟨_, rfl, ?_⟩; have n0_ := Aside0.mk (Kd.R_below (by (with_reducible repeat (first | apply Kd.R_alloc | apply Kd.R_drewN | apply Kd.R_drew)); exact (Kd.R_mono (Kd.R_far (p := ⟨gb386, 3, none⟩) (Kd.R_far (p := ⟨gb386, 2, none⟩) (Kd.R_far (p := ⟨gb386, 1, none⟩) (Kd.R_far (p := ⟨gb386, 0, none⟩) (Kd.R_types HO_6.out BK386.out (by decide)) (fun _ hk => hk.2) (.int .i64 t377)) (fun _ hk => hk.2) (.int .i64 t378)) (fun _ hk => hk.2) (.slice Ao67 t379.length co67)) (fun _ hk => hk.2) (.slice Ao68 t382.length co68)) (fun _ h_ => h_.1))) hb); have n1_ := Aside0.mk (Kd.V_below z18_20 hb); have n2_ := Aside0.mk (Kd.V_below z18_21 hb); have n3_ := Aside0.mk (Kd.V_below (by (with_reducible repeat (first | apply Kd.V_alloc | apply Kd.V_drewN | apply Kd.V_drew)); exact (Kd.V_mono (Kd.V_far (p := ⟨gb386, 3, none⟩) (Kd.V_far (p := ⟨gb386, 2, none⟩) (Kd.V_far (p := ⟨gb386, 1, none⟩) (Kd.V_far (p := ⟨gb386, 0, none⟩) (Kd.V_mono HO_358002.out (fun k_ hk => (⟨hk, hk.2⟩ : _ ∧ k_ ≠ gb386))) (fun _ hk => hk.2) (.int .i64 t377)) (fun _ hk => hk.2) (.int .i64 t378)) (fun _ hk => hk.2) (.slice Ao67 t379.length co67)) (fun _ hk => hk.2) (.slice Ao68 t382.length co68)) (fun _ h_ => h_.1))) hb); have n4_ := Aside0.mk (Kd.V_below (by (with_reducible repeat (first | apply Kd.V_alloc | apply Kd.V_drewN | apply Kd.V_drew)); exact (Kd.V_mono (Kd.V_far (p := ⟨gb386, 3, none⟩) (Kd.V_far (p := ⟨gb386, 2, none⟩) (Kd.V_far (p := ⟨gb386, 1, none⟩) (Kd.V_far (p := ⟨gb386, 0, none⟩) (Kd.V_mono HO_358003.out (fun k_ hk => (⟨hk, hk.2⟩ : _ ∧ k_ ≠ gb386))) (fun _ hk => hk.2) (.int .i64 t377)) (fun _ hk => hk.2) (.int .i64 t378)) (fun _ hk => hk.2) (.slice Ao67 t379.length co67)) (fun _ hk => hk.2) (.slice Ao68 t382.length co68)) (fun _ h_ => h_.1))) hb); have n5_ := Aside0.mk (Kd.R_below (by (with_reducible repeat (first | apply Kd.R_alloc | apply Kd.R_drewN | apply Kd.R_drew)); exact (Kd.R_mono (Kd.R_far (p := ⟨gb386, 3, none⟩) (Kd.R_far (p := ⟨gb386, 2, none⟩) (Kd.R_far (p := ⟨gb386, 1, none⟩) (Kd.R_far (p := ⟨gb386, 0, none⟩) (Kd.R_types HO381.out BK386.out (by decide)) (fun _ hk => hk.2) (.int .i64 t377)) (fun _ hk => hk.2) (.int .i64 t378)) (fun _ hk => hk.2) (.slice Ao67 t379.length co67)) (fun _ hk => hk.2) (.slice Ao68 t382.length co68)) (fun _ h_ => h_.1))) hb); have n6_ := Aside0.mk (Kd.R_below (by (with_reducible repeat (first | apply Kd.R_alloc | apply Kd.R_drewN | apply Kd.R_drew)); exact (Kd.R_mono (Kd.R_far (p := ⟨gb386, 3, none⟩) (Kd.R_far (p := ⟨gb386, 2, none⟩) (Kd.R_far (p := ⟨gb386, 1, none⟩) (Kd.R_far (p := ⟨gb386, 0, none⟩) (Kd.R_types HO384.out BK386.out (by decide)) (fun _ hk => hk.2) (.int .i64 t377)) (fun _ hk => hk.2) (.int .i64 t378)) (fun _ hk => hk.2) (.slice Ao67 t379.length co67)) (fun _ hk => hk.2) (.slice Ao68 t382.length co68)) (fun _ h_ => h_.1))) hb); have n7_ := Aside0.mk (blk_below (g := gb356) (o := .cells #[.int .i64 a0_0, .int .i64 a0_1, .slice A0_2 l0_2.length c0_2, .slice A0_3 l0_3.length c0_3] 30 (0, 0)) (by (with_reducible repeat (first | refine blk_drewN ?_ _ | refine blk_drew ?_ | refine blk_alloc ?_ _)); refine blk_far ?_ NB356_386.out _; (with_reducible repeat (first | refine blk_drewN ?_ _ | refine blk_drew ?_ | refine blk_alloc ?_ _)); refine blk_far ?_ NB356_386.out _; (with_reducible repeat (first | refine blk_drewN ?_ _ | refine blk_drew ?_ | refine blk_alloc ?_ _)); refine blk_far ?_ NB356_386.out _; (with_reducible repeat (first | refine blk_drewN ?_ _ | refine blk_drew ?_ | refine blk_alloc ?_ _)); refine blk_far ?_ NB356_386.out _; (with_reducible repeat (first | refine blk_drewN ?_ _ | refine blk_drew ?_ | refine blk_alloc ?_ _)); exact BK356.out) hb); have n8_ := Aside0.mk (blk_below (g := gb357) (o := .cells #[.int .i64 a1_0, .int .i64 a1_1, .slice A1_2 l1_2.length c1_2, .slice A1_3 l1_3.length c1_3] 30 (0, 0)) (by (with_reducible repeat (first | refine blk_drewN ?_ _ | refine blk_drew ?_ | refine blk_alloc ?_ _)); refine blk_far ?_ NB357_386.out _; (with_reducible repeat (first | refine blk_drewN ?_ _ | refine blk_drew ?_ | refine blk_alloc ?_ _)); refine blk_far ?_ NB357_386.out _; (with_reducible repeat (first | refine blk_drewN ?_ _ | refine blk_drew ?_ | refine blk_alloc ?_ _)); refine blk_far ?_ NB357_386.out _; (with_reducible repeat (first | refine blk_drewN ?_ _ | refine blk_drew ?_ | refine blk_alloc ?_ _)); refine blk_far ?_ NB357_386.out _; (with_reducible repeat (first | refine blk_drewN ?_ _ | refine blk_drew ?_ | refine blk_alloc ?_ _)); exact BK357.out) hb); have n9_ := Aside0.mk (blk_below (g := gb386) (o := .cells #[.int .i64 t377, .int .i64 t378, .slice Ao67 t379.length co67, .slice Ao68 t382.length co68] 30 (0, 0)) (by (with_reducible repeat (first | refine blk_drewN ?_ _ | refine blk_drew ?_ | refine blk_alloc ?_ _)); refine blk_put (cs := #[.int .i64 t377, .int .i64 t378, .slice Ao67 t379.length co67, .slice none 0 0]) ?_ 3 _ rfl; (with_reducible repeat (first | refine blk_drewN ?_ _ | refine blk_drew ?_ | refine blk_alloc ?_ _)); refine blk_put (cs := #[.int .i64 t377, .int .i64 t378, .slice none 0 0, .slice none 0 0]) ?_ 2 _ rfl; (with_reducible repeat (first | refine blk_drewN ?_ _ | refine blk_drew ?_ | refine blk_alloc ?_ _)); refine blk_put (cs := #[.int .i64 t377, .int .i64 0, .slice none 0 0, .slice none 0 0]) ?_ 1 _ rfl; (with_reducible repeat (first | refine blk_drewN ?_ _ | refine blk_drew ?_ | refine blk_alloc ?_ _)); refine blk_put (cs := #[.int .i64 0, .int .i64 0, .slice none 0 0, .slice none 0 0]) ?_ 0 _ rfl; (with_reducible repeat (first | refine blk_drewN ?_ _ | refine blk_drew ?_ | refine blk_alloc ?_ _)); exact BK386.out) hb); have n10_ := Aside0.mk (below_step z18_12 hb); clear HO_6; clear HO_357002; clear HO_357003; clear HO_358002; clear HO_358003; clear HO381; clear HO384; clear BK356; clear BK357; clear BK386; clear HB; have HO_6 := n0_; have HO_357002 := n1_; have HO_357003 := n2_; have HO_358002 := n3_; have HO_358003 := n4_; have HO381 := n5_; have HO384 := n6_; have BK356 := n7_; have BK357 := n8_; have BK386 := n9_; have HB := n10_; clear n0_ n1_ n2_ n3_ n4_ n5_ n6_ n7_ n8_ n9_ n10_; (try clear hb); (try clear hb2); (try clear hk); (try clear hi); have hcz71_0 : w70.cell? ⟨gb356, 0, none⟩ = some (.int .i64 a0_0) := (blk_cell BK356.out 0).trans rfl; have hcz71_1 : w70.cell? ⟨gb356, 1, none⟩ = some (.int .i64 a0_1) := (blk_cell BK356.out 1).trans rfl; have hcz71_2 : w70.cell? ⟨gb356, 2, none⟩ = some (.slice A0_2 l0_2.length c0_2) := (blk_cell BK356.out 2).trans rfl; have hcz71_3 : w70.cell? ⟨gb356, 3, none⟩ = some (.slice A0_3 l0_3.length c0_3) := (blk_cell BK356.out 3).trans rfl; have hfz71_0 := blk_frozen BK356.out 0; have hfz71_1 := blk_frozen BK356.out 1; have hfz71_2 := blk_frozen BK356.out 2; have hfz71_3 := blk_frozen BK356.out 3) | (go_at_call 28; (with_reducible refine (hucksterref05_Put.calls kj28 a0_0 a0_1 _ _ l0_2 _ _ l0_3 t388 _ ?side1 ?side2 ?side3 ?side4 A51.out).mono ?_); (case side1 => exact z18_6); (case side2 => exact z18_25); (case side3 => exact z18_7); (case side4 => exact z18_26); rintro e w72 ⟨v389, rfl, ho0, hb⟩; have n0_ := Aside0.mk (Kd.R_elder' z18_13 (Kd.R_base ho0) hb); have n1_ := Aside0.mk (Kd.V_elder' z18_8 (Kd.R_base ho0) hb); have n2_ := Aside0.mk (Kd.V_elder' z18_9 (Kd.R_base ho0) hb); have n3_ := Aside0.mk (Kd.V_elder' z18_10 (Kd.R_base ho0) hb); have n4_ := Aside0.mk (Kd.V_elder' z18_11 (Kd.R_base ho0) hb); have n5_ := Aside0.mk (Kd.R_below z18_28 hb); have n6_ := Aside0.mk (Kd.R_below z18_29 hb); have n7_ := Aside0.mk (Kd.R_lower (Kd.R_new' (Kd.R_newM (M := fun k_ => (w.heap.size ≤ k_)) ho0 (below_size z18_12) (fun k_ h_ => h_)) (Kd.R_lt z18_13)) (below_size z18_12)); have n8_ := Aside0.mk (blk_below (g := gb356) (o := .cells #[.int .i64 a0_0, .int .i64 a0_1, .slice A0_2 l0_2.length c0_2, .slice A0_3 l0_3.length c0_3] 30 (0, 0)) z18_1 hb); have n9_ := Aside0.mk (blk_below (g := gb357) (o := .cells #[.int .i64 a1_0, .int .i64 a1_1, .slice A1_2 l1_2.length c1_2, .slice A1_3 l1_3.length c1_3] 30 (0, 0)) z18_3 hb); have n10_ := Aside0.mk (blk_below (g := gb386) (o := .cells #[.int .i64 t377, .int .i64 t378, .slice Ao67 t379.length co67, .slice Ao68 t382.length co68] 30 (0, 0)) z18_30 hb); have n11_ := Aside0.mk (below_step z18_12 hb); clear HO_6; clear HO_357002; clear HO_357003; clear HO_358002; clear HO_358003; clear HO381; clear HO384; clear BK356; clear BK357; clear BK386; clear HB; have HO_6 := n0_; have HO_357002 := n1_; have HO_357003 := n2_; have HO_358002 := n3_; have HO_358003 := n4_; have HO381 := n5_; have HO384 := n6_; have HO390 := n7_; have BK356 := n8_; have BK357 := n9_; have BK386 := n10_; have HB := n11_; clear n0_ n1_ n2_ n3_ n4_ n5_ n6_ n7_ n8_ n9_ n10_ n11_; (try clear hb); (try clear hb2); (try clear hk); (try clear hi); (try clear ho0); obtain ⟨Ao73, co73, eo73⟩ := Kd.R_slice HO390.out; subst eo73) | (go_at_call 23; (with_reducible refine (hucksterref02_Bytes.calls kj28 _ _ t367 _ _ t388 true _ ?side1 ?side2 ?side3 ?side4 A52.out).mono ?_); (case side1 => exact z18_33); (case side2 => exact (Kd.R_reads' HO_6.out).2.1); (case side3 => repeat (first | exact (Kd.R_reads' HO390.out).2.2 | (with_reducible refine Kd.C_alloc ?_ _) | (with_reducible refine Kd.C_drewN ?_ _) | (with_reducible refine Kd.C_drew ?_))); (case side4 => exact (Kd.R_reads' HO390.out).2.1); rintro e w' ⟨rfl, ⟨nd, rfl⟩⟩; have hcz74_0 : w72.cell? ⟨gb386, 0, none⟩ = some (.int .i64 t377) := (blk_cell BK386.out 0).trans rfl; have hcz74_1 : w72.cell? ⟨gb386, 1, none⟩ = some (.int .i64 t378) := (blk_cell BK386.out 1).trans rfl; have hcz74_2 : w72.cell? ⟨gb386, 2, none⟩ = some (.slice Ao67 t379.length co67) := (blk_cell BK386.out 2).trans rfl; have hcz74_3 : w72.cell? ⟨gb386, 3, none⟩ = some (.slice Ao68 t382.length co68) := (blk_cell BK386.out 3).trans rfl; have hfz74_0 := blk_frozen BK386.out 0; have hfz74_1 := blk_frozen BK386.out 1; have hfz74_2 := blk_frozen BK386.out 2; have hfz74_3 := blk_frozen BK386.out 3; have hcz75_0 : w72.cell? ⟨gb356, 0, none⟩ = some (.int .i64 a0_0) := (blk_cell BK356.out 0).trans rfl; have hcz75_1 : w72.cell? ⟨gb356, 1, none⟩ = some (.int .i64 a0_1) := (blk_cell BK356.out 1).trans rfl; have hcz75_2 : w72.cell? ⟨gb356, 2, none⟩ = some (.slice A0_2 l0_2.length c0_2) := (blk_cell BK356.out 2).trans rfl; have hcz75_3 : w72.cell? ⟨gb356, 3, none⟩ = some (.slice A0_3 l0_3.length c0_3) := (blk_cell BK356.out 3).trans rfl; have hfz75_0 := blk_frozen BK356.out 0; have hfz75_1 := blk_frozen BK356.out 1; have hfz75_2 := blk_frozen BK356.out 2; have hfz75_3 := blk_frozen BK356.out 3) | (go_at_call 15; (with_reducible refine (hucksterref05_Same.calls kj28 t377 t378 _ _ t379 _ _ t382 a0_0 a0_1 _ _ l0_2 _ _ l0_3 true _ ?side1 ?side2 ?side3 ?side4 ?side5 ?side6 ?side7 ?side8 A55.out).mono ?_); (case side1 => repeat (first | exact (Kd.R_reads' HO381.out).2.2 | (with_reducible refine Kd.C_alloc ?_ _) | (with_reducible refine Kd.C_drewN ?_ _) | (with_reducible refine Kd.C_drew ?_))); (case side2 => exact (Kd.R_reads' HO381.out).2.1); (case side3 => repeat (first | exact (Kd.R_reads' HO384.out).2.2 | (with_reducible refine Kd.C_alloc ?_ _) | (with_reducible refine Kd.C_drewN ?_ _) | (with_reducible refine Kd.C_drew ?_))); (case side4 => exact (Kd.R_reads' HO384.out).2.1); (case side5 => exact z18_6); (case side6 => exact z18_25); (case side7 => exact z18_7); (case side8 => exact z18_26); rintro e w76 ⟨rfl, hb⟩; have n0_ := Aside0.mk (Kd.R_below z18_13 hb); have n1_ := Aside0.mk (Kd.V_below z18_8 hb); have n2_ := Aside0.mk (Kd.V_below z18_9 hb); have n3_ := Aside0.mk (Kd.V_below z18_10 hb); have n4_ := Aside0.mk (Kd.V_below z18_11 hb); have n5_ := Aside0.mk (Kd.R_below z18_28 hb); have n6_ := Aside0.mk (Kd.R_below z18_29 hb); have n7_ := Aside0.mk (Kd.R_below (by (with_reducible repeat (first | apply Kd.R_alloc | apply Kd.R_drewN | apply Kd.R_drew)); exact HO390.out) hb); have n8_ := Aside0.mk (blk_below (g := gb356) (o := .cells #[.int .i64 a0_0, .int .i64 a0_1, .slice A0_2 l0_2.length c0_2, .slice A0_3 l0_3.length c0_3] 30 (0, 0)) z18_1 hb); have n9_ := Aside0.mk (blk_below (g := gb357) (o := .cells #[.int .i64 a1_0, .int .i64 a1_1, .slice A1_2 l1_2.length c1_2, .slice A1_3 l1_3.length c1_3] 30 (0, 0)) z18_3 hb); have n10_ := Aside0.mk (blk_below (g := gb386) (o := .cells #[.int .i64 t377, .int .i64 t378, .slice Ao67 t379.length co67, .slice Ao68 t382.length co68] 30 (0, 0)) z18_30 hb); have n11_ := Aside0.mk (below_step z18_12 hb); clear HO_6; clear HO_357002; clear HO_357003; clear HO_358002; clear HO_358003; clear HO381; clear HO384; clear HO390; clear BK356; clear BK357; clear BK386; clear HB; have HO_6 := n0_; have HO_357002 := n1_; have HO_357003 := n2_; have HO_358002 := n3_; have HO_358003 := n4_; have HO381 := n5_; have HO384 := n6_; have HO390 := n7_; have BK356 := n8_; have BK357 := n9_; have BK386 := n10_; have HB := n11_; clear n0_ n1_ n2_ n3_ n4_ n5_ n6_ n7_ n8_ n9_ n10_ n11_; (try clear hb); (try clear hb2); (try clear hk); (try clear hi)) | (go_at_call 12; (with_reducible refine (hucksterlaw05_awake.calls kj28  t393 _ A57.out).mono ?_); rintro e w77 ⟨rfl, hb⟩; have n0_ := Aside0.mk (Kd.R_below z18_13 hb); have n1_ := Aside0.mk (Kd.V_below z18_8 hb); have n2_ := Aside0.mk (Kd.V_below z18_9 hb); have n3_ := Aside0.mk (Kd.V_below z18_10 hb); have n4_ := Aside0.mk (Kd.V_below z18_11 hb); have n5_ := Aside0.mk (Kd.R_below z18_28 hb); have n6_ := Aside0.mk (Kd.R_below z18_29 hb); have n7_ := Aside0.mk (Kd.R_below (by (with_reducible repeat (first | apply Kd.R_alloc | apply Kd.R_drewN | apply Kd.R_drew)); exact HO390.out) hb); have n8_ := Aside0.mk (blk_below (g := gb356) (o := .cells #[.int .i64 a0_0, .int .i64 a0_1, .slice A0_2 l0_2.length c0_2, .slice A0_3 l0_3.length c0_3] 30 (0, 0)) z18_1 hb); have n9_ := Aside0.mk (blk_below (g := gb357) (o := .cells #[.int .i64 a1_0, .int .i64 a1_1, .slice A1_2 l1_2.length c1_2, .slice A1_3 l1_3.length c1_3] 30 (0, 0)) z18_3 hb); have n10_ := Aside0.mk (blk_below (g := gb386) (o := .cells #[.int .i64 t377, .int .i64 t378, .slice Ao67 t379.length co67, .slice Ao68 t382.length co68] 30 (0, 0)) z18_30 hb); have n11_ := Aside0.mk (below_step z18_12 hb); clear HO_6; clear HO_357002; clear HO_357003; clear HO_358002; clear HO_358003; clear HO381; clear HO384; clear HO390; clear BK356; clear BK357; clear BK386; clear HB; have HO_6 := n0_; have HO_357002 := n1_; have HO_357003 := n2_; have HO_358002 := n3_; have HO_358003 := n4_; have HO381 := n5_; have HO384 := n6_; have HO390 := n7_; have BK356 := n8_; have BK357 := n9_; have BK386 := n10_; have HB := n11_; clear n0_ n1_ n2_ n3_ n4_ n5_ n6_ n7_ n8_ n9_ n10_ n11_; (try clear hb); (try clear hb2); (try clear hk); (try clear hi)))
              go_ret
              exact ⟨by first | rfl | (simp [errW_none, errW_some] <;> rfl) | (simp [*, errW_none, errW_some] <;> rfl), by repeat (first | (with_reducible first | exact HB.out | apply below_alloc | apply pw_below_drewN | apply below_drew1 | refine below_set ?_ GE356.out | refine below_set ?_ GE357.out | refine below_set ?_ GE386.out) | exact HB.out)⟩
             ·replace c56 := Bool.eq_false_iff.mpr c56
              subst c56
              have H1 : (some false) = some r := by rw [if_neg (show ¬ (false = true) by decide)] at H; exact H
              exact absurd (HRT_.out.symm.trans (Option.some.inj H1).symm) (by simp)
            ·rw [if_neg c54] at H
             exact absurd (HRT_.out.symm.trans (Option.some.inj H).symm) (by simp)
           ·replace c53 := Bool.eq_false_iff.mpr c53
            subst c53
            have H1 : (some false) = some r := by rw [if_neg (show ¬ (false = true) by decide)] at H; exact H
            exact absurd (HRT_.out.symm.trans (Option.some.inj H1).symm) (by simp)
          ·rw [if_neg c50] at H
           exact absurd (HRT_.out.symm.trans (Option.some.inj H).symm) (by simp)
         ·rw [if_neg c49] at H
          exact absurd (HRT_.out.symm.trans (Option.some.inj H).symm) (by simp)
        ·replace c46 := Bool.eq_false_iff.mpr c46
         subst c46
         have H1 : ((event_Check.f kj28 a0_0 a0_1 l0_2 l0_3).bind fun t375 => (if t375 = 1 then (if t370 = 1 then (if (t367.length : Int) = 0 then ((hucksterlaw05_awake.f kj28).bind fun t376 => (some t376)) else (some false)) else (some false)) else (some false))) = some r := by rw [if_neg (show ¬ (false = true) by decide)] at H; exact H
         clear H
         have H := H1
         clear H1
         replace H := Option.bind_eq_some_iff.mp H
         obtain ⟨t375, A1550, H⟩ := H
         replace H : (if t375 = 1 then (if t370 = 1 then (if (t367.length : Int) = 0 then ((hucksterlaw05_awake.f kj28).bind fun t376 => (some t376)) else (some false)) else (some false)) else (some false)) = some r := H
         have A155 := Aside0.mk A1550
         clear A1550
         by_cases c156 : t375 = 1
         ·rw [if_pos c156] at H
          have c156b0 : (t375 == 1) = true := beq_iff_eq.mpr c156
          have c156b1 : (t375 != 1) = false := bne_eq_false_iff_eq.mpr c156
          clear c156
          by_cases c157 : t370 = 1
          ·rw [if_pos c157] at H
           have c157b0 : (t370 == 1) = true := beq_iff_eq.mpr c157
           have c157b1 : (t370 != 1) = false := bne_eq_false_iff_eq.mpr c157
           clear c157
           by_cases c158 : (t367.length : Int) = 0
           ·rw [if_pos c158] at H
            have c158b0 : ((t367.length : Int) == 0) = true := beq_iff_eq.mpr c158
            have c158b1 : ((t367.length : Int) != 0) = false := bne_eq_false_iff_eq.mpr c158
            clear c158
            replace H := Option.bind_eq_some_iff.mp H
            obtain ⟨t376, A1590, H⟩ := H
            replace H : (some t376) = some r := H
            have A159 := Aside0.mk A1590
            clear A1590
            obtain rfl := Option.some.inj H
            have hnb160 := NB356_357.out
            have hnc160 := NB357_356.out
            have hcz161_0 : wc.cell? ⟨gb356, 0, none⟩ = some (.int .i64 a0_0) := (blk_cell BK356.out 0).trans rfl
            have hcz161_1 : wc.cell? ⟨gb356, 1, none⟩ = some (.int .i64 a0_1) := (blk_cell BK356.out 1).trans rfl
            have hcz161_2 : wc.cell? ⟨gb356, 2, none⟩ = some (.slice A0_2 l0_2.length c0_2) := (blk_cell BK356.out 2).trans rfl
            have hcz161_3 : wc.cell? ⟨gb356, 3, none⟩ = some (.slice A0_3 l0_3.length c0_3) := (blk_cell BK356.out 3).trans rfl
            have hfz161_0 := blk_frozen BK356.out 0
            have hfz161_1 := blk_frozen BK356.out 1
            have hfz161_2 := blk_frozen BK356.out 2
            have hfz161_3 := blk_frozen BK356.out 3
            go_wp2_with (first | ((with_reducible refine gate_callee (f := 17) rfl ?_); refine goesL_ (some 56) rfl rfl Try.func17 z18_27 rfl #[.agg #[.int .i64 a0_0, .int .i64 a0_1, .slice A0_2 l0_2.length c0_2, .slice A0_3 l0_3.length c0_3]] rfl z18_5 ?_; (with_reducible refine (hucksterref05_May.calls kj28 a0_0 a0_1 _ _ l0_2 _ _ l0_3 false _ ?side1 ?side2 ?side3 ?side4 A45.out).mono ?_); (case side1 => exact z18_6); (case side2 => exact z18_25); (case side3 => exact z18_7); (case side4 => exact z18_26); rintro e w162 ⟨rfl, hb⟩; refine ⟨_, rfl, ?_⟩; have n0_ := Aside0.mk (Kd.R_below z18_13 hb); have n1_ := Aside0.mk (Kd.V_below z18_8 hb); have n2_ := Aside0.mk (Kd.V_below z18_9 hb); have n3_ := Aside0.mk (Kd.V_below z18_10 hb); have n4_ := Aside0.mk (Kd.V_below z18_11 hb); have n5_ := Aside0.mk (blk_below (g := gb356) (o := .cells #[.int .i64 a0_0, .int .i64 a0_1, .slice A0_2 l0_2.length c0_2, .slice A0_3 l0_3.length c0_3] 30 (0, 0)) z18_1 hb); have n6_ := Aside0.mk (blk_below (g := gb357) (o := .cells #[.int .i64 a1_0, .int .i64 a1_1, .slice A1_2 l1_2.length c1_2, .slice A1_3 l1_3.length c1_3] 30 (0, 0)) z18_3 hb); have n7_ := Aside0.mk (below_step z18_0 hb); clear HO_6; clear HO_357002; clear HO_357003; clear HO_358002; clear HO_358003; clear BK356; clear BK357; clear HB; have HO_6 := n0_; have HO_357002 := n1_; have HO_357003 := n2_; have HO_358002 := n3_; have HO_358003 := n4_; have BK356 := n5_; have BK357 := n6_; have HB := n7_; clear n0_ n1_ n2_ n3_ n4_ n5_ n6_ n7_; (try clear hb); (try clear hb2); (try clear hk); (try clear hi); have hcz163_0 : w162.cell? ⟨gb356, 0, none⟩ = some (.int .i64 a0_0) := (blk_cell BK356.out 0).trans rfl; have hcz163_1 : w162.cell? ⟨gb356, 1, none⟩ = some (.int .i64 a0_1) := (blk_cell BK356.out 1).trans rfl; have hcz163_2 : w162.cell? ⟨gb356, 2, none⟩ = some (.slice A0_2 l0_2.length c0_2) := (blk_cell BK356.out 2).trans rfl; have hcz163_3 : w162.cell? ⟨gb356, 3, none⟩ = some (.slice A0_3 l0_3.length c0_3) := (blk_cell BK356.out 3).trans rfl; have hfz163_0 := blk_frozen BK356.out 0; have hfz163_1 := blk_frozen BK356.out 1; have hfz163_2 := blk_frozen BK356.out 2; have hfz163_3 := blk_frozen BK356.out 3) | ((with_reducible refine gate_callee (f := 27) rfl ?_); refine goesL_ (some 59) rfl rfl Try.func27 z18_27 rfl #[.agg #[.int .i64 a0_0, .int .i64 a0_1, .slice A0_2 l0_2.length c0_2, .slice A0_3 l0_3.length c0_3]] rfl z18_5 ?_; (with_reducible refine (event_Check.calls kj28 a0_0 a0_1 _ _ l0_2 _ _ l0_3 t375 _ ?side1 ?side2 ?side3 ?side4 A155.out).mono ?_); (case side1 => exact z18_6); (case side2 => exact z18_25); (case side3 => exact z18_7); (case side4 => exact z18_26); rintro e w164 ⟨rfl, hb⟩; refine ⟨_, rfl, ?_⟩; have n0_ := Aside0.mk (Kd.R_below z18_13 hb); have n1_ := Aside0.mk (Kd.V_below z18_8 hb); have n2_ := Aside0.mk (Kd.V_below z18_9 hb); have n3_ := Aside0.mk (Kd.V_below z18_10 hb); have n4_ := Aside0.mk (Kd.V_below z18_11 hb); have n5_ := Aside0.mk (blk_below (g := gb356) (o := .cells #[.int .i64 a0_0, .int .i64 a0_1, .slice A0_2 l0_2.length c0_2, .slice A0_3 l0_3.length c0_3] 30 (0, 0)) z18_1 hb); have n6_ := Aside0.mk (blk_below (g := gb357) (o := .cells #[.int .i64 a1_0, .int .i64 a1_1, .slice A1_2 l1_2.length c1_2, .slice A1_3 l1_3.length c1_3] 30 (0, 0)) z18_3 hb); have n7_ := Aside0.mk (below_step z18_0 hb); clear HO_6; clear HO_357002; clear HO_357003; clear HO_358002; clear HO_358003; clear BK356; clear BK357; clear HB; have HO_6 := n0_; have HO_357002 := n1_; have HO_357003 := n2_; have HO_358002 := n3_; have HO_358003 := n4_; have BK356 := n5_; have BK357 := n6_; have HB := n7_; clear n0_ n1_ n2_ n3_ n4_ n5_ n6_ n7_; (try clear hb); (try clear hb2); (try clear hk); (try clear hi); obtain ⟨Ao165, co165, eo165⟩ := Kd.R_slice HO_6.out; subst eo165) | (go_at_call 12; (with_reducible refine (hucksterlaw05_awake.calls kj28  t376 _ A159.out).mono ?_); rintro e w166 ⟨rfl, hb⟩; have n0_ := Aside0.mk (Kd.R_below z18_13 hb); have n1_ := Aside0.mk (Kd.V_below z18_8 hb); have n2_ := Aside0.mk (Kd.V_below z18_9 hb); have n3_ := Aside0.mk (Kd.V_below z18_10 hb); have n4_ := Aside0.mk (Kd.V_below z18_11 hb); have n5_ := Aside0.mk (blk_below (g := gb356) (o := .cells #[.int .i64 a0_0, .int .i64 a0_1, .slice A0_2 l0_2.length c0_2, .slice A0_3 l0_3.length c0_3] 30 (0, 0)) z18_1 hb); have n6_ := Aside0.mk (blk_below (g := gb357) (o := .cells #[.int .i64 a1_0, .int .i64 a1_1, .slice A1_2 l1_2.length c1_2, .slice A1_3 l1_3.length c1_3] 30 (0, 0)) z18_3 hb); have n7_ := Aside0.mk (below_step z18_0 hb); clear HO_6; clear HO_357002; clear HO_357003; clear HO_358002; clear HO_358003; clear BK356; clear BK357; clear HB; have HO_6 := n0_; have HO_357002 := n1_; have HO_357003 := n2_; have HO_358002 := n3_; have HO_358003 := n4_; have BK356 := n5_; have BK357 := n6_; have HB := n7_; clear n0_ n1_ n2_ n3_ n4_ n5_ n6_ n7_; (try clear hb); (try clear hb2); (try clear hk); (try clear hi)))
            go_ret
            exact ⟨by first | rfl | (simp [errW_none, errW_some] <;> rfl) | (simp [*, errW_none, errW_some] <;> rfl), by repeat (first | (with_reducible first | exact HB.out | apply below_alloc | apply pw_below_drewN | apply below_drew1 | refine below_set ?_ GE356.out | refine below_set ?_ GE357.out) | exact HB.out)⟩
           ·rw [if_neg c158] at H
            exact absurd (HRT_.out.symm.trans (Option.some.inj H).symm) (by simp)
          ·rw [if_neg c157] at H
           exact absurd (HRT_.out.symm.trans (Option.some.inj H).symm) (by simp)
         ·rw [if_neg c156] at H
          exact absurd (HRT_.out.symm.trans (Option.some.inj H).symm) (by simp)
 ·replace c4 := Bool.eq_false_iff.mpr c4
  subst c4
  have H1 : ((hucksterlaw05_awake.f k).bind fun t362 => (some t362)) = some r := by rw [if_neg (show ¬ (false = true) by decide)] at H; exact H
  clear H
  have H := H1
  clear H1
  replace H := Option.bind_eq_some_iff.mp H
  obtain ⟨t362, A1830, H⟩ := H
  replace H : (some t362) = some r := H
  have A183 := Aside0.mk A1830
  clear A1830
  obtain rfl := Option.some.inj H
  go_enter Try.func6, Try.ntmps6
  go_wp2_with (first | ((with_reducible refine gate_dst (N := 2) rfl ?_); (try (refine gate_guard (by rfl) ?_; dsimp only)); refine box_event ?hg (N := 2) ?hd (cs := #[.int .i64 a0_0, .int .i64 a0_1, .slice A0_2 l0_2.length c0_2, .slice A0_3 l0_3.length c0_3]) (t := 30) ?hr ?_; (case hd => rfl); (case hg => rfl); (case hr => exact z18_31); intro gb356 hg w184 hbox hb; have n0_ := Aside0.mk (Kd.V_below (Kd.V_elderB z18_16 gb356 (Nat.le_of_eq hg.symm)) hb); have n1_ := Aside0.mk (Kd.V_below (Kd.V_elderB z18_17 gb356 (Nat.le_of_eq hg.symm)) hb); have n2_ := Aside0.mk (Kd.V_below (Kd.V_elderB z18_18 gb356 (Nat.le_of_eq hg.symm)) hb); have n3_ := Aside0.mk (Kd.V_below (Kd.V_elderB z18_19 gb356 (Nat.le_of_eq hg.symm)) hb); have n4_ := Aside0.mk (below_step z18_15 hb); have n5_ := Aside0.mk (hbox); have n6_ := Aside0.mk ((by rw [hg]; exact (below_size z18_15) : w.heap.size ≤ gb356)); have n7_ := Aside0.mk ((by rw [hg]; exact (below_size z18_15) : w.heap.size ≤ gb356)); clear HO0_2; clear HO0_3; clear HO1_2; clear HO1_3; clear HB; have HO0_2 := n0_; have HO0_3 := n1_; have HO1_2 := n2_; have HO1_3 := n3_; have HB := n4_; have BK356 := n5_; have GW356 := n6_; have GE356 := n7_; clear n0_ n1_ n2_ n3_ n4_ n5_ n6_ n7_; clear hb hbox hg) | ((with_reducible refine gate_dst (N := 3) rfl ?_); (try (refine gate_guard (by rfl) ?_; dsimp only)); refine box_event ?hg (N := 3) ?hd (cs := #[.int .i64 a1_0, .int .i64 a1_1, .slice A1_2 l1_2.length c1_2, .slice A1_3 l1_3.length c1_3]) (t := 30) ?hr ?_; (case hd => rfl); (case hg => rfl); (case hr => exact z18_31); intro gb357 hg w185 hbox hb; have n0_ := Aside0.mk (Kd.V_below (Kd.V_elderB z18_16 gb357 (Nat.le_of_eq hg.symm)) hb); have n1_ := Aside0.mk (Kd.V_below (Kd.V_elderB z18_17 gb357 (Nat.le_of_eq hg.symm)) hb); have n2_ := Aside0.mk (Kd.V_below (Kd.V_elderB z18_18 gb357 (Nat.le_of_eq hg.symm)) hb); have n3_ := Aside0.mk (Kd.V_below (Kd.V_elderB z18_19 gb357 (Nat.le_of_eq hg.symm)) hb); have n4_ := Aside0.mk (blk_below (g := gb356) (o := .cells #[.int .i64 a0_0, .int .i64 a0_1, .slice A0_2 l0_2.length c0_2, .slice A0_3 l0_3.length c0_3] 30 (0, 0)) z18_1 hb); have n5_ := Aside0.mk (below_step z18_14 hb); have n6_ := Aside0.mk (hbox); have n7_ := Aside0.mk ((by rw [hg]; exact (below_size z18_14) : w.heap.size ≤ gb357)); have n8_ := Aside0.mk ((by rw [hg]; exact (below_size z18_14) : w.heap.size ≤ gb357)); have n9_ := Aside0.mk ((by rw [hg]; exact Nat.ne_of_lt (blk_lt (g := gb356) (o := .cells #[.int .i64 a0_0, .int .i64 a0_1, .slice A0_2 l0_2.length c0_2, .slice A0_3 l0_3.length c0_3] 30 (0, 0)) z18_1) : gb356 ≠ gb357)); have n10_ := Aside0.mk ((by rw [hg]; exact Nat.ne_of_gt (blk_lt (g := gb356) (o := .cells #[.int .i64 a0_0, .int .i64 a0_1, .slice A0_2 l0_2.length c0_2, .slice A0_3 l0_3.length c0_3] 30 (0, 0)) z18_1) : gb357 ≠ gb356)); clear HO0_2; clear HO0_3; clear HO1_2; clear HO1_3; clear BK356; clear HB; have HO0_2 := n0_; have HO0_3 := n1_; have HO1_2 := n2_; have HO1_3 := n3_; have BK356 := n4_; have HB := n5_; have BK357 := n6_; have GW357 := n7_; have GE357 := n8_; have NB356_357 := n9_; have NB357_356 := n10_; clear n0_ n1_ n2_ n3_ n4_ n5_ n6_ n7_ n8_ n9_ n10_; clear hb hbox hg; have hnb186 := NB356_357.out; have hnc186 := NB357_356.out; have hcz187_0 : w185.cell? ⟨gb356, 0, none⟩ = some (.int .i64 a0_0) := (blk_cell BK356.out 0).trans rfl; have hcz187_1 : w185.cell? ⟨gb356, 1, none⟩ = some (.int .i64 a0_1) := (blk_cell BK356.out 1).trans rfl; have hcz187_2 : w185.cell? ⟨gb356, 2, none⟩ = some (.slice A0_2 l0_2.length c0_2) := (blk_cell BK356.out 2).trans rfl; have hcz187_3 : w185.cell? ⟨gb356, 3, none⟩ = some (.slice A0_3 l0_3.length c0_3) := (blk_cell BK356.out 3).trans rfl; have hfz187_0 := blk_frozen BK356.out 0; have hfz187_1 := blk_frozen BK356.out 1; have hfz187_2 := blk_frozen BK356.out 2; have hfz187_3 := blk_frozen BK356.out 3; have hcz188_0 : w185.cell? ⟨gb357, 0, none⟩ = some (.int .i64 a1_0) := (blk_cell BK357.out 0).trans rfl; have hcz188_1 : w185.cell? ⟨gb357, 1, none⟩ = some (.int .i64 a1_1) := (blk_cell BK357.out 1).trans rfl; have hcz188_2 : w185.cell? ⟨gb357, 2, none⟩ = some (.slice A1_2 l1_2.length c1_2) := (blk_cell BK357.out 2).trans rfl; have hcz188_3 : w185.cell? ⟨gb357, 3, none⟩ = some (.slice A1_3 l1_3.length c1_3) := (blk_cell BK357.out 3).trans rfl; have hfz188_0 := blk_frozen BK357.out 0; have hfz188_1 := blk_frozen BK357.out 1; have hfz188_2 := blk_frozen BK357.out 2; have hfz188_3 := blk_frozen BK357.out 3) | ((with_reducible refine gate_dst (N := 12) rfl ?_); (try (refine gate_guard (by rfl) ?_; dsimp only)); refine Kd.N_lit k30 _ 30 ?hg (N' := 12) ?hd (xs := ([(⟨(⟨a0_0, a0_1⟩ : S25), l0_2, l0_3⟩ : S30), (⟨(⟨a1_0, a1_1⟩ : S25), l1_2, l1_3⟩ : S30)] : List (S30))) (inner := [.int .i64 a0_0, .int .i64 a0_1, .slice A0_2 l0_2.length c0_2, .slice A0_3 l0_3.length c0_3, .int .i64 a1_0, .int .i64 a1_1, .slice A1_2 l1_2.length c1_2, .slice A1_3 l1_3.length c1_3]) (ok := (fun k_ => ((P0_2_ k_ ∨ P0_3_ k_ ∨ P1_2_ k_ ∨ P1_3_ k_) ∨ w.heap.size ≤ k_) ∧ k_ ≠ gb356 ∧ k_ ≠ gb357)) (okp := (fun k_ => ((P0_2_ k_ ∨ P0_3_ k_ ∨ P1_2_ k_ ∨ P1_3_ k_) ∨ w.heap.size ≤ k_) ∧ k_ ≠ gb356 ∧ k_ ≠ gb357)) ?hr ?hp (fun _ hk => hk) ((show ∀ k_, w185.heap.size ≤ k_ → (fun k_ => ((P0_2_ k_ ∨ P0_3_ k_ ∨ P1_2_ k_ ∨ P1_3_ k_) ∨ w.heap.size ≤ k_) ∧ k_ ≠ gb356 ∧ k_ ≠ gb357) k_ from fun k_ hk => ⟨(.inr (Nat.le_trans (below_size z18_0) hk)), Kd.freshB (g := gb356) (o := .cells #[.int .i64 a0_0, .int .i64 a0_1, .slice A0_2 l0_2.length c0_2, .slice A0_3 l0_3.length c0_3] 30 (0, 0)) z18_1 k_ hk, Kd.freshB (g := gb357) (o := .cells #[.int .i64 a1_0, .int .i64 a1_1, .slice A1_2 l1_2.length c1_2, .slice A1_3 l1_3.length c1_3] 30 (0, 0)) z18_3 k_ hk⟩) _ (Nat.le_refl _)) (Below.refl _ _) (Nat.le_refl _) (by simp) ?_; (case hd => rfl); (case hg => rfl); (case hr => exact z18_31); (case hp => exact z18_4); intro v359 w189 ho190 hb hg_ hnew_; clear hg_ hnew_; (first | rw [← Ny358.out] at ho190 | (simp only [Int.reduceToNat] at ho190; rw [← Ny358.out] at ho190)); have n0_ := Aside0.mk (Kd.V_elder' z18_16 (Kd.N_base ho190) hb); have n1_ := Aside0.mk (Kd.V_elder' z18_17 (Kd.N_base ho190) hb); have n2_ := Aside0.mk (Kd.V_elder' z18_18 (Kd.N_base ho190) hb); have n3_ := Aside0.mk (Kd.V_elder' z18_19 (Kd.N_base ho190) hb); have n4_ := Aside0.mk (Kd.N_lower ho190 (below_size z18_0)); have n5_ := Aside0.mk (blk_below (g := gb356) (o := .cells #[.int .i64 a0_0, .int .i64 a0_1, .slice A0_2 l0_2.length c0_2, .slice A0_3 l0_3.length c0_3] 30 (0, 0)) z18_1 hb); have n6_ := Aside0.mk (blk_below (g := gb357) (o := .cells #[.int .i64 a1_0, .int .i64 a1_1, .slice A1_2 l1_2.length c1_2, .slice A1_3 l1_3.length c1_3] 30 (0, 0)) z18_3 hb); have n7_ := Aside0.mk (below_step z18_0 hb); clear HO0_2; clear HO0_3; clear HO1_2; clear HO1_3; clear BK356; clear BK357; clear HB; have HO0_2 := n0_; have HO0_3 := n1_; have HO1_2 := n2_; have HO1_3 := n3_; have HO360 := n4_; have BK356 := n5_; have BK357 := n6_; have HB := n7_; clear n0_ n1_ n2_ n3_ n4_ n5_ n6_ n7_; clear hb ho190; obtain ⟨Ao191, co191, eo191⟩ := Kd.N_slice HO360.out; subst eo191) | ((with_reducible refine gate_callee (f := 16) rfl ?_); refine goesL_ (some 13) rfl rfl Try.func16 z18_27 rfl #[.slice Ao191 y358.length co191] rfl z18_5 ?_; (with_reducible refine (hucksterlaw05_Light.calls k _ _ y358 false _ ?side1 ?side2 A3.out).mono ?_); (case side1 => exact z18_32); (case side2 => exact (Kd.N_reads' HO360.out).2.1); rintro e w' ⟨rfl, ⟨nd, rfl⟩⟩; refine ⟨_, rfl, ?_⟩) | ((with_reducible refine gate_callee (f := 12) rfl ?_); refine goesL_ (some 15) rfl rfl Try.func12 z18_27 rfl #[] rfl z18_5 ?_; (with_reducible refine (hucksterlaw05_awake.calls k  t362 _ A183.out).mono ?_); rintro e w192 ⟨rfl, hb⟩; refine ⟨_, rfl, ?_⟩; have n0_ := Aside0.mk (Kd.V_below z18_16 hb); have n1_ := Aside0.mk (Kd.V_below z18_17 hb); have n2_ := Aside0.mk (Kd.V_below z18_18 hb); have n3_ := Aside0.mk (Kd.V_below z18_19 hb); have n4_ := Aside0.mk (Kd.N_below (by (with_reducible repeat (first | apply Kd.N_alloc | apply Kd.N_drewN | apply Kd.N_drew)); exact HO360.out) hb); have n5_ := Aside0.mk (blk_below (g := gb356) (o := .cells #[.int .i64 a0_0, .int .i64 a0_1, .slice A0_2 l0_2.length c0_2, .slice A0_3 l0_3.length c0_3] 30 (0, 0)) z18_1 hb); have n6_ := Aside0.mk (blk_below (g := gb357) (o := .cells #[.int .i64 a1_0, .int .i64 a1_1, .slice A1_2 l1_2.length c1_2, .slice A1_3 l1_3.length c1_3] 30 (0, 0)) z18_3 hb); have n7_ := Aside0.mk (below_step z18_0 hb); clear HO0_2; clear HO0_3; clear HO1_2; clear HO1_3; clear HO360; clear BK356; clear BK357; clear HB; have HO0_2 := n0_; have HO0_3 := n1_; have HO1_2 := n2_; have HO1_3 := n3_; have HO360 := n4_; have BK356 := n5_; have BK357 := n6_; have HB := n7_; clear n0_ n1_ n2_ n3_ n4_ n5_ n6_ n7_; (try clear hb); (try clear hb2); (try clear hk); (try clear hi)))
  go_ret
  exact ⟨by first | rfl | (simp [errW_none, errW_some] <;> rfl) | (simp [*, errW_none, errW_some] <;> rfl), by repeat (first | (with_reducible first | exact HB.out | apply below_alloc | apply pw_below_drewN | apply below_drew1 | refine below_set ?_ GE356.out | refine below_set ?_ GE357.out) | exact HB.out)⟩
end Go.Proofs.Ytgocnchjpecafaa.PEp
