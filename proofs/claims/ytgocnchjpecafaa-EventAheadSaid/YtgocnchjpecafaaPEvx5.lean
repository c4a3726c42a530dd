/- a part -/
import Derived.Test.YtgocnchjpecafaaPEvx0
import Derived.Test.YtgocnchjpecafaaPEvx3
import Derived.Test.YtgocnchjpecafaaPEvx4
namespace Go.Proofs.Ytgocnchjpecafaa.PEv
open Go.RowKit Go.Proofs.YtgocnchjpecafaaW.PrintWords Go.Proofs.YtgocnchjpecafaaW.PrintLast Go.Proofs.YtgocnchjpecafaaW.PrintMore
attribute [local go_sem] max2_int min2_int max_two min_two max_three min_three max_four min_four
set_option linter.unusedVariables false
set_option linter.unusedSimpArgs false
theorem z5_0 {P : Prop} (h : P := by repeat (first | (with_reducible first | exact HB.out | apply below_alloc | apply pw_below_drewN | apply below_drew1 | refine below_set ?_ GE123.out) | exact HB.out)) : P := h
theorem z5_1 {P : Prop} (h : P := by (with_reducible repeat (first | refine blk_drewN ?_ _ | refine blk_drew ?_ | refine blk_alloc ?_ _)); refine blk_put (cs := #[.int .i64 1, .int .i64 1, .slice none 0 0, .slice none 0 0]) ?_ 3 _ rfl; (with_reducible repeat (first | refine blk_drewN ?_ _ | refine blk_drew ?_ | refine blk_alloc ?_ _)); refine blk_put (cs := #[.int .i64 1, .int .i64 1, .slice none 0 0, .slice none 0 0]) ?_ 2 _ rfl; (with_reducible repeat (first | refine blk_drewN ?_ _ | refine blk_drew ?_ | refine blk_alloc ?_ _)); refine blk_put (cs := #[.int .i64 1, .int .i64 0, .slice none 0 0, .slice none 0 0]) ?_ 1 _ rfl; (with_reducible repeat (first | refine blk_drewN ?_ _ | refine blk_drew ?_ | refine blk_alloc ?_ _)); refine blk_put (cs := #[.int .i64 0, .int .i64 0, .slice none 0 0, .slice none 0 0]) ?_ 0 _ rfl; (with_reducible repeat (first | refine blk_drewN ?_ _ | refine blk_drew ?_ | refine blk_alloc ?_ _)); exact BK123.out) : P := h
theorem z5_2 {P : Prop} (h : P := by repeat (first | (with_reducible first | exact HB.out | apply below_alloc | apply pw_below_drewN | apply below_drew1 | refine below_set ?_ GE123.out | refine below_set ?_ GE127.out) | exact HB.out)) : P := h
theorem z5_3 {P : Prop} (h : P := by repeat (first | (with_reducible first | exact HB.out | apply below_alloc | apply pw_below_drewN | apply below_drew1) | exact HB.out)) : P := h
theorem z5_4 {P : Prop} (h : P := by (with_reducible repeat (first | refine blk_drewN ?_ _ | refine blk_drew ?_ | refine blk_alloc ?_ _)); exact BK123.out) : P := h
theorem z5_5 {P : Prop} (h : P := by (with_reducible repeat (first | refine blk_drewN ?_ _ | refine blk_drew ?_ | refine blk_alloc ?_ _)); refine blk_far ?_ NB123_127.out _; (with_reducible repeat (first | refine blk_drewN ?_ _ | refine blk_drew ?_ | refine blk_alloc ?_ _)); refine blk_far ?_ NB123_127.out _; (with_reducible repeat (first | refine blk_drewN ?_ _ | refine blk_drew ?_ | refine blk_alloc ?_ _)); refine blk_far ?_ NB123_127.out _; (with_reducible repeat (first | refine blk_drewN ?_ _ | refine blk_drew ?_ | refine blk_alloc ?_ _)); refine blk_far ?_ NB123_127.out _; (with_reducible repeat (first | refine blk_drewN ?_ _ | refine blk_drew ?_ | refine blk_alloc ?_ _)); exact BK123.out) : P := h
theorem z5_6 {P : Prop} (h : P := by (with_reducible repeat (first | apply Kd.R_alloc | apply Kd.R_drewN | apply Kd.R_drew)); exact HO122.out) : P := h
theorem z5_7 {P : Prop} (h : P := by exact (Reps.c6 (show Kd.M k48 _ _ _ (⟨1, 0, (⟨#[107]⟩ : ByteArray), 0, 0, (⟨#[]⟩ : ByteArray)⟩ : S48) [.int .i64 1, .int .i64 0, .string (⟨#[107]⟩ : ByteArray), .int .i64 0, .int .i64 0, .string (⟨#[]⟩ : ByteArray)] from (k48_mkM _ _ _ (⟨1, 0, (⟨#[107]⟩ : ByteArray), 0, 0, (⟨#[]⟩ : ByteArray)⟩ : S48) )) (Reps.none _ _))) : P := h
theorem z5_8 {P : Prop} (h : P := by (with_reducible repeat (first | refine blk_drewN ?_ _ | refine blk_drew ?_ | refine blk_alloc ?_ _)); exact BK127.out) : P := h
theorem z5_9 {P : Prop} (h : P := by repeat (first | exact (Kd.R_reads' HO122.out).2.2 | (with_reducible refine Kd.C_alloc ?_ _) | (with_reducible refine Kd.C_drewN ?_ _) | (with_reducible refine Kd.C_drew ?_))) : P := h
theorem z5_10 {P : Prop} (h : P := by (with_reducible repeat (first | apply Kd.R_alloc | apply Kd.R_drewN | apply Kd.R_drew)); exact (Kd.R_mono (Kd.R_far (p := ⟨gb127, 3, none⟩) (Kd.R_far (p := ⟨gb127, 2, none⟩) (Kd.R_far (p := ⟨gb127, 1, none⟩) (Kd.R_far (p := ⟨gb127, 0, none⟩) (Kd.R_types HO122.out BK127.out (by decide)) (fun _ hk => hk.2) (.int .i64 2)) (fun _ hk => hk.2) (.int .i64 1)) (fun _ hk => hk.2) (.slice Ao33 y124.length co33)) (fun _ hk => hk.2) (.slice Ao27 y120.length co27)) (fun _ h_ => h_.1))) : P := h
theorem z5_11 {P : Prop} (h : P := by (with_reducible repeat (first | apply Kd.R_alloc | apply Kd.R_drewN | apply Kd.R_drew)); exact (Kd.R_mono (Kd.R_far (p := ⟨gb127, 3, none⟩) (Kd.R_far (p := ⟨gb127, 2, none⟩) (Kd.R_far (p := ⟨gb127, 1, none⟩) (Kd.R_far (p := ⟨gb127, 0, none⟩) (Kd.R_types HO122.out BK127.out (by decide)) (fun _ hk => hk.2) (.int .i64 2)) (fun _ hk => hk.2) (.int .i64 1)) (fun _ hk => hk.2) (.slice Ao58 y124.length co58)) (fun _ hk => hk.2) (.slice Ao52 y120.length co52)) (fun _ h_ => h_.1))) : P := h
theorem z5_12 {P : Prop} (h : P := by (with_reducible repeat (first | apply Kd.R_alloc | apply Kd.R_drewN | apply Kd.R_drew)); exact (Kd.R_mono (Kd.R_far (p := ⟨gb127, 3, none⟩) (Kd.R_far (p := ⟨gb127, 2, none⟩) (Kd.R_far (p := ⟨gb127, 1, none⟩) (Kd.R_far (p := ⟨gb127, 0, none⟩) (Kd.R_types HO122.out BK127.out (by decide)) (fun _ hk => hk.2) (.int .i64 2)) (fun _ hk => hk.2) (.int .i64 1)) (fun _ hk => hk.2) (.slice Ao81 y124.length co81)) (fun _ hk => hk.2) (.slice Ao75 y120.length co75)) (fun _ h_ => h_.1))) : P := h
theorem z5_13 {P : Prop} (h : P := by (with_reducible repeat (first | apply Kd.R_alloc | apply Kd.R_drewN | apply Kd.R_drew)); exact (Kd.R_mono (Kd.R_far (p := ⟨gb127, 3, none⟩) (Kd.R_far (p := ⟨gb127, 2, none⟩) (Kd.R_far (p := ⟨gb127, 1, none⟩) (Kd.R_far (p := ⟨gb127, 0, none⟩) (Kd.R_types HO122.out BK127.out (by decide)) (fun _ hk => hk.2) (.int .i64 2)) (fun _ hk => hk.2) (.int .i64 1)) (fun _ hk => hk.2) (.slice Ao13 y124.length co13)) (fun _ hk => hk.2) (.slice Ao7 y120.length co7)) (fun _ h_ => h_.1))) : P := h
theorem z5_14 {P : Prop} (h : P := by (with_reducible repeat (first | apply Kd.R_alloc | apply Kd.R_drewN | apply Kd.R_drew)); exact HO126.out) : P := h
theorem z5_15 {P : Prop} (h : P := by first | (go_simp; done) | (go_simp; rfl)) : P := h
theorem z5_16 {P : Prop} (h : P := by repeat (first | exact (Kd.R_reads' HO126.out).2.2 | (with_reducible refine Kd.C_alloc ?_ _) | (with_reducible refine Kd.C_drewN ?_ _) | (with_reducible refine Kd.C_drew ?_))) : P := h
theorem z5_17 {P : Prop} (h : P := by (with_reducible repeat (first | apply Kd.R_alloc | apply Kd.R_drewN | apply Kd.R_drew)); exact (Kd.R_mono (Kd.R_far (p := ⟨gb127, 3, none⟩) (Kd.R_far (p := ⟨gb127, 2, none⟩) (Kd.R_far (p := ⟨gb127, 1, none⟩) (Kd.R_far (p := ⟨gb127, 0, none⟩) (Kd.R_types HO126.out BK127.out (by decide)) (fun _ hk => hk.2) (.int .i64 2)) (fun _ hk => hk.2) (.int .i64 1)) (fun _ hk => hk.2) (.slice Ao33 y124.length co33)) (fun _ hk => hk.2) (.slice Ao27 y120.length co27)) (fun _ h_ => h_.1))) : P := h
theorem z5_18 {P : Prop} (h : P := by (with_reducible repeat (first | apply Kd.R_alloc | apply Kd.R_drewN | apply Kd.R_drew)); exact (Kd.R_mono (Kd.R_far (p := ⟨gb127, 3, none⟩) (Kd.R_far (p := ⟨gb127, 2, none⟩) (Kd.R_far (p := ⟨gb127, 1, none⟩) (Kd.R_far (p := ⟨gb127, 0, none⟩) (Kd.R_types HO126.out BK127.out (by decide)) (fun _ hk => hk.2) (.int .i64 2)) (fun _ hk => hk.2) (.int .i64 1)) (fun _ hk => hk.2) (.slice Ao58 y124.length co58)) (fun _ hk => hk.2) (.slice Ao52 y120.length co52)) (fun _ h_ => h_.1))) : P := h
theorem z5_19 {P : Prop} (h : P := by (with_reducible repeat (first | apply Kd.R_alloc | apply Kd.R_drewN | apply Kd.R_drew)); exact (Kd.R_mono (Kd.R_far (p := ⟨gb127, 3, none⟩) (Kd.R_far (p := ⟨gb127, 2, none⟩) (Kd.R_far (p := ⟨gb127, 1, none⟩) (Kd.R_far (p := ⟨gb127, 0, none⟩) (Kd.R_types HO126.out BK127.out (by decide)) (fun _ hk => hk.2) (.int .i64 2)) (fun _ hk => hk.2) (.int .i64 1)) (fun _ hk => hk.2) (.slice Ao81 y124.length co81)) (fun _ hk => hk.2) (.slice Ao75 y120.length co75)) (fun _ h_ => h_.1))) : P := h
theorem z5_20 {P : Prop} (h : P := by (with_reducible repeat (first | apply Kd.R_alloc | apply Kd.R_drewN | apply Kd.R_drew)); exact (Kd.R_mono (Kd.R_far (p := ⟨gb127, 3, none⟩) (Kd.R_far (p := ⟨gb127, 2, none⟩) (Kd.R_far (p := ⟨gb127, 1, none⟩) (Kd.R_far (p := ⟨gb127, 0, none⟩) (Kd.R_types HO126.out BK127.out (by decide)) (fun _ hk => hk.2) (.int .i64 2)) (fun _ hk => hk.2) (.int .i64 1)) (fun _ hk => hk.2) (.slice Ao13 y124.length co13)) (fun _ hk => hk.2) (.slice Ao7 y120.length co7)) (fun _ h_ => h_.1))) : P := h
theorem z5_21 {P : Prop} (h : P := by exact (Kd.R_reads' HO122.out).2.1) : P := h
theorem z5_22 {P : Prop} (h : P := by (try simp only [List.map_toArray, List.map_cons, List.map_nil]); first | done | rfl | (simp only [List.length_drop, List.length_take]; rfl)) : P := h
theorem z5_23 {P : Prop} (h : P := by exact (Reps.one (show Kd.M (Kd.int .i64) _ _ _ 1 [.int .i64 1] from rfl) (Reps.none _ _))) : P := h
theorem z5_24 {P : Prop} (h : P := by (try simp only [List.map_toArray, List.map_cons, List.map_nil]); first | done | rfl) : P := h
theorem z5_25 {P : Prop} (h : P := by exact (Kd.R_reads' HO126.out).2.1) : P := h
theorem z5_26 {P : Prop} (h : P := by (with_reducible repeat (first | apply Kd.N_alloc | apply Kd.N_drewN | apply Kd.N_drew)); exact HO132.out) : P := h
theorem z5_27 {P : Prop} (h : P := by repeat (first | exact (Kd.N_reads' HO132.out).2.2 | (with_reducible refine Kd.C_alloc ?_ _) | (with_reducible refine Kd.C_drewN ?_ _) | (with_reducible refine Kd.C_drew ?_))) : P := h
def event_Closed.l0 : Nat → List S30 → List (Int × Int) → List Int → Int → Option (Option (List (Int × Int) × List Int))
 | 0, _, _, _, _ => none
 | k + 1, xs, ds, most, i => if i < (xs.length : Int) then (if 0 ≤ i then ((event_Check.f k (rd_T30 xs i).f0.f0 (rd_T30 xs i).f0.f1 (rd_T30 xs i).f1 (rd_T30 xs i).f2).bind fun c => if c = 0 then (if ((rd_T30 xs i).f0.f0, (rd_T30 xs i).f0.f1) ∈ ds then some none else
   (if 0 ≤ (rd_T30 xs i).f0.f0 ∧ (rd_T30 xs i).f0.f0 < 6 then event_Closed.l0 k xs (ds ++ [((rd_T30 xs i).f0.f0, (rd_T30 xs i).f0.f1)]) (most.set (rd_T30 xs i).f0.f0.toNat (wrap64 (rd most (rd_T30 xs i).f0.f0 + 1))) (wrap64 (i + 1)) else none)) else some none) else none) else some (some (ds, most))
def event_Closed.l3 : Nat → List (Int × Int) → Int → Int → Int → Option Bool
 | 0, _, _, _, _ => none
 | k + 1, ds, rep, n, j => if j ≤ n then (if (rep, j) ∈ ds then event_Closed.l3 k ds rep n (wrap64 (j + 1)) else some false) else some true
def event_Closed.l2 : Nat → List Int → List (Int × Int) → List Int → Int → Option Bool
 | 0, _, _, _, _ => none
 | k + 1, past, ds, most, rep => if rep ≤ 5 then (if 0 ≤ rep then ((clock_Get.f past rep).bind fun n => if rd most rep < n then some false else (event_Closed.l3 k ds rep n 1).bind fun b => if b = true then event_Closed.l2 k past ds most (wrap64 (rep + 1)) else some false) else none) else some true
def event_Closed.l1 : Nat → List S30 → List (Int × Int) → List Int → Int → Option Bool
 | 0, _, _, _, _ => none
 | k + 1, xs, ds, most, i => if i < (xs.length : Int) then (if 0 ≤ i then ((event_Closed.l2 k (rd_T30 xs i).f1 ds most 1).bind fun b => if b = true then event_Closed.l1 k xs ds most (wrap64 (i + 1)) else some false) else none) else some true
def event_Closed.f (k : Nat) (xs : List S30) : Option Bool :=
 (event_Closed.l0 k xs [] [0, 0, 0, 0, 0, 0] 0).bind fun o => match o with
  | none => some false
  | some p => event_Closed.l1 k xs p.1 p.2 0
theorem event_Closed.l0_mono : ∀ k xs ds most i, LeO (event_Closed.l0 k xs ds most i) (event_Closed.l0 (k + 1) xs ds most i)
 | 0, _, _, _, _ => fun r h => by simp [event_Closed.l0] at h
 | k + 1, xs, ds, most, i => by
  have ih := event_Closed.l0_mono k
  unfold event_Closed.l0
  repeat' first
   | (with_reducible exact ih _ _ _ _)
   | (with_reducible exact event_Check.mono _ _ _ _ _)
   | (with_reducible exact LeO.refl _)
   | (with_reducible exact LeO.none _)
   | (with_reducible refine LeO.ite ?_ ?_)
   | (with_reducible refine LeO.bind ?_ (fun _ => ?_))
   | exact ih _ _ _ _
   | exact event_Check.mono _ _ _ _ _
   | exact LeO.none _
   | refine LeO.ite ?_ ?_
   | refine LeO.bind ?_ (fun _ => ?_)
theorem event_Closed.l3_mono : ∀ k ds rep n j, LeO (event_Closed.l3 k ds rep n j) (event_Closed.l3 (k + 1) ds rep n j)
 | 0, _, _, _, _ => fun r h => by simp [event_Closed.l3] at h
 | k + 1, ds, rep, n, j => by
  have ih := event_Closed.l3_mono k
  unfold event_Closed.l3
  repeat' first
   | (with_reducible exact ih _ _ _ _)
   | (with_reducible exact LeO.refl _)
   | (with_reducible exact LeO.none _)
   | (with_reducible refine LeO.ite ?_ ?_)
   | (with_reducible refine LeO.bind ?_ (fun _ => ?_))
   | exact ih _ _ _ _
   | exact LeO.none _
   | refine LeO.ite ?_ ?_
   | refine LeO.bind ?_ (fun _ => ?_)
theorem event_Closed.l2_mono : ∀ k past ds most rep, LeO (event_Closed.l2 k past ds most rep) (event_Closed.l2 (k + 1) past ds most rep)
 | 0, _, _, _, _ => fun r h => by simp [event_Closed.l2] at h
 | k + 1, past, ds, most, rep => by
  have ih := event_Closed.l2_mono k
  unfold event_Closed.l2
  repeat' first
   | (with_reducible exact ih _ _ _ _)
   | (with_reducible exact event_Closed.l3_mono _ _ _ _ _)
   | (with_reducible exact LeO.refl _)
   | (with_reducible exact LeO.none _)
   | (with_reducible refine LeO.ite ?_ ?_)
   | (with_reducible refine LeO.bind ?_ (fun _ => ?_))
   | exact ih _ _ _ _
   | exact event_Closed.l3_mono _ _ _ _ _
   | exact LeO.none _
   | refine LeO.ite ?_ ?_
   | refine LeO.bind ?_ (fun _ => ?_)
theorem event_Closed.l1_mono : ∀ k xs ds most i, LeO (event_Closed.l1 k xs ds most i) (event_Closed.l1 (k + 1) xs ds most i)
 | 0, _, _, _, _ => fun r h => by simp [event_Closed.l1] at h
 | k + 1, xs, ds, most, i => by
  have ih := event_Closed.l1_mono k
  unfold event_Closed.l1
  repeat' first
   | (with_reducible exact ih _ _ _ _)
   | (with_reducible exact event_Closed.l2_mono _ _ _ _ _)
   | (with_reducible exact LeO.refl _)
   | (with_reducible exact LeO.none _)
   | (with_reducible refine LeO.ite ?_ ?_)
   | (with_reducible refine LeO.bind ?_ (fun _ => ?_))
   | exact ih _ _ _ _
   | exact event_Closed.l2_mono _ _ _ _ _
   | exact LeO.none _
   | refine LeO.ite ?_ ?_
   | refine LeO.bind ?_ (fun _ => ?_)
theorem event_Closed.mono : ∀ a0 k, LeO (event_Closed.f k a0) (event_Closed.f (k + 1) a0) := by
 intro a0 k
 unfold event_Closed.f
 refine LeO.bind (event_Closed.l0_mono _ _ _ _ _) (fun o => ?_)
 cases o with
 | none => exact LeO.refl _
 | some p => exact event_Closed.l1_mono _ _ _ _ _
open Go.Proofs.Ytgocnchjpecafaa.Cards Go.Proofs.Ytgocnchjpecafaa.Hand Go.Proofs.Ytgocnchjpecafaa.DotMap in
set_option maxHeartbeats 8000000 in
set_option maxRecDepth 100000 in
theorem event_Closed.calls (k : Nat) (A0 : Option Addr) (c0 : Nat) (xs : List S30) (r : Bool) (w : World) (hr0 : Kd.C k30 w A0 xs.length xs) (hc0 : xs.length ≤ c0) (h : event_Closed.f k xs = some r) :
  Calls Try.prog 48 #[.slice A0 xs.length c0] w fun e w' => e = .returned (.bool r) ∧ Below w.heap.size w w' := by
 have hu30 := Try.underlying30
 have hu25 := Try.underlying25
 have HR := Aside0.mk hr0
 have hmm := @run_makeMap_plain Try.prog
 have HH := h
 clear hr0 hc0 h
 unfold event_Closed.f at HH
 replace HH := Option.bind_eq_some_iff.mp HH
 obtain ⟨o, h1, HH⟩ := HH
 have H1 := Aside0.mk h1
 have H := Aside0.mk HH
 clear h1 HH
 go_enter Try.func48, Try.ntmps48
 go_wp2
 have hb0 := below_alloc (below_alloc (Below.refl w.heap.size w) (.map #[] 0)) (.cells (nums .i64 [0, 0, 0, 0, 0, 0]).toArray 108)
 have hm0 : MapIs ((w.alloc (.map #[] 0)).alloc (.cells (nums .i64 [0, 0, 0, 0, 0, 0]).toArray 108)) w.heap.size (ents []) 0 := ((below_alloc (Below.refl _ _) _).block _ (by simp)).trans (heap_alloc_new w _)
 have hg0 := heap_alloc_new (w.alloc (.map #[] 0)) (.cells (nums .i64 [0, 0, 0, 0, 0, 0]).toArray 108)
 obtain ⟨bm, hbm⟩ : ∃ bm, bm = w.heap.size := ⟨_, rfl⟩
 obtain ⟨gm, hgm⟩ : ∃ gm, gm = w.heap.size + 1 := ⟨_, rfl⟩
 rw [show (w.alloc (.map #[] 0)).heap.size = w.heap.size + 1 by simp, ← hgm] at hg0
 rw [← hbm] at hm0
 have GB := Aside0.mk (Nat.le_of_eq hbm.symm)
 have GG := Aside0.mk (show w.heap.size ≤ gm by omega)
 have NE := Aside0.mk (show gm ≠ bm by omega)
 rw [← hgm, ← hbm]
 change Code.wp _ _ _ _ ((w.alloc (.map #[] 0)).alloc (.cells (nums .i64 [0, 0, 0, 0, 0, 0]).toArray 108))
 generalize (w.alloc (.map #[] 0)).alloc (.cells (nums .i64 [0, 0, 0, 0, 0, 0]).toArray 108) = w1 at hb0 hm0 hg0 ⊢
 have HB0 := Aside0.mk hb0
 have HM0 := Aside0.mk hm0
 have HG0 := Aside0.mk hg0
 clear hb0 hm0 hg0 hbm hgm hmm
 go_loopg [16] k (fun kq v16 w' => ∃ (ds : List (Int × Int)) (most : List Int) (i : Int), v16 = .int .i64 i ∧ Aside0 (event_Closed.l0 kq xs ds most i = some o) ∧ Aside0 (kq ≤ k) ∧ Aside0 (MapIs w' bm (ents ds) ds.length) ∧ Aside0 (w'.heap[gm]? = some (.cells (nums .i64 most).toArray 108 (0, 0))) ∧ Aside0 (most.length = 6) ∧ Aside0 (Below w.heap.size w w'))
 case atStart => exact ⟨[], [0, 0, 0, 0, 0, 0], 0, rfl, H1, ⟨Nat.le_refl _⟩, HM0, HG0, ⟨rfl⟩, HB0⟩
 case round =>
  clear H1 HM0 HG0 HB0
  obtain ⟨ds, most, i, rfl, HA, HK, HM, HG, LM, HB⟩ := hrel
  cases gk with
  | zero => exact absurd HA.out (by simp [event_Closed.l0])
  | succ k1 =>
   have HQ := HA.out
   clear HA
   simp only [event_Closed.l0] at HQ
   by_cases ci : i < (xs.length : Int)
   ·rw [if_pos ci] at HQ
    by_cases c0_ : 0 ≤ i
    case neg =>
     rw [if_neg c0_] at HQ
     exact absurd HQ (by simp)
    rw [if_pos c0_] at HQ
    replace HQ := Option.bind_eq_some_iff.mp HQ
    obtain ⟨c, h1, HQ⟩ := HQ
    have HE := Aside0.mk h1
    clear h1
    obtain ⟨ad, A2, c2, A3, c3, e0, x0, x1, x2, x3, l2, g2, l3, g3⟩ := at_T30 HR.out i c0_ ci
    cases e0
    have x0 := pw_cell_below HB.out x0
    have x1 := pw_cell_below HB.out x1
    have x2 := pw_cell_below HB.out x2
    have x3 := pw_cell_below HB.out x3
    have ci1 : decide (i < (xs.length : Int)) = true := decide_eq_true ci
    have ci2 : (i < (xs.length : Int)) = True := eq_true ci
    have c01 : (0 ≤ i) = True := eq_true c0_
    clear ci c0_
    go_upto_region 6 with (fail)
    have BX := Aside0.mk (heap_alloc_new wr (.cells #[.int .i64 (rd_T30 xs i).f0.f0, .int .i64 (rd_T30 xs i).f0.f1, .slice A2 (rd_T30 xs i).f1.length c2, .slice A3 (rd_T30 xs i).f2.length c3] 30))
    have hb := below_alloc (Below.refl wr.heap.size wr) (.cells #[.int .i64 (rd_T30 xs i).f0.f0, .int .i64 (rd_T30 xs i).f0.f1, .slice A2 (rd_T30 xs i).f1.length c2, .slice A3 (rd_T30 xs i).f2.length c3] 30)
    obtain ⟨bx, hbx⟩ : ∃ bx, bx = wr.heap.size := ⟨_, rfl⟩
    generalize wr.alloc (.cells #[.int .i64 (rd_T30 xs i).f0.f0, .int .i64 (rd_T30 xs i).f0.f1, .slice A2 (rd_T30 xs i).f1.length c2, .slice A3 (rd_T30 xs i).f2.length c3] 30) = w2 at BX hb ⊢
    rw [← hbx] at BX ⊢
    have NX := Aside0.mk (show bx ≠ bm by rw [hbx]; exact Ne.symm (Nat.ne_of_lt (blk_lt HM.out)))
    have n1 := Aside0.mk (below_step HB.out hb); have n2 := Aside0.mk (blk_below HM.out hb); have n3 := Aside0.mk (blk_below HG.out hb)
    clear HB HM HG hb x0 x1 x2 x3 hbx
    have HB := n1; have HM := n2; have HG := n3
    clear n1 n2 n3
    generalize rd_T30 xs i = x at *
    have L2 := Aside0.mk l2; have P2 := Aside0.mk g2; have L3 := Aside0.mk l3; have P3 := Aside0.mk g3
    clear l2 g2 l3 g3
    have hx0 := (blk_cell BX.out 0).trans (rfl : _ = some (Value.int .i64 x.f0.f0)); have hx1 := (blk_cell BX.out 1).trans (rfl : _ = some (Value.int .i64 x.f0.f1)); have hx2 := (blk_cell BX.out 2).trans (rfl : _ = some (Value.slice A2 x.f1.length c2)); have hx3 := (blk_cell BX.out 3).trans (rfl : _ = some (Value.slice A3 x.f2.length c3))
    by_cases cc : c = 0
    case neg =>
     rw [if_neg cc] at HQ
     obtain rfl := Option.some.inj HQ
     have HH := H.out
     simp only at HH
     obtain rfl := Option.some.inj HH
     have cc1 : (c != 0) = true := bne_iff_ne.2 cc
     go_wp2_with (first | ((with_reducible refine gate_callee (f := 27) rfl ?_); refine goesL_ (some 21) rfl rfl Try.func27 (by kernel_rfl) rfl #[.agg #[.int .i64 x.f0.f0, .int .i64 x.f0.f1, .slice A2 x.f1.length c2, .slice A3 x.f2.length c3]] rfl z5_24 ?_; (with_reducible refine (event_Check.calls k1 _ _ _ _ x.f1 _ _ x.f2 _ _ (Kd.C_below P2.out HB.out) L2.out (Kd.C_below P3.out HB.out) L3.out HE.out).mono ?_); rintro e_ w3 ⟨rfl, hb⟩; refine ⟨_, rfl, ?_⟩; have n1 := Aside0.mk (below_step HB.out hb); have n2 := Aside0.mk (blk_below HM.out hb); have n3 := Aside0.mk (blk_below HG.out hb); have n4 := Aside0.mk (blk_below BX.out hb); clear HB HM HG BX; have HB := n1; have HM := n2; have HG := n3; have BX := n4; clear n1 n2 n3 n4 hb; have hx0 := (blk_cell BX.out 0).trans (rfl : _ = some (Value.int .i64 x.f0.f0)); have hx1 := (blk_cell BX.out 1).trans (rfl : _ = some (Value.int .i64 x.f0.f1)); have hlk := lookup_run (t := 107) (z := .bool false) (x.f0.f0, x.f0.f1) Try.underlying107 HM.out (by kernel_rfl); rw [get_ents] at hlk; simp only [dotV] at hlk))
     go_ret
     exact ⟨rfl, HB.out⟩
    subst cc
    rw [if_pos rfl] at HQ
    by_cases cm : (x.f0.f0, x.f0.f1) ∈ ds
    ·rw [if_pos cm] at HQ
     obtain rfl := Option.some.inj HQ
     have HH := H.out
     simp only at HH
     obtain rfl := Option.some.inj HH
     have cm1 : decide ((x.f0.f0, x.f0.f1) ∈ ds) = true := decide_eq_true cm
     go_wp2_with (first | ((with_reducible refine gate_callee (f := 27) rfl ?_); refine goesL_ (some 21) rfl rfl Try.func27 (by kernel_rfl) rfl #[.agg #[.int .i64 x.f0.f0, .int .i64 x.f0.f1, .slice A2 x.f1.length c2, .slice A3 x.f2.length c3]] rfl z5_24 ?_; (with_reducible refine (event_Check.calls k1 _ _ _ _ x.f1 _ _ x.f2 _ _ (Kd.C_below P2.out HB.out) L2.out (Kd.C_below P3.out HB.out) L3.out HE.out).mono ?_); rintro e_ w3 ⟨rfl, hb⟩; refine ⟨_, rfl, ?_⟩; have n1 := Aside0.mk (below_step HB.out hb); have n2 := Aside0.mk (blk_below HM.out hb); have n3 := Aside0.mk (blk_below HG.out hb); have n4 := Aside0.mk (blk_below BX.out hb); clear HB HM HG BX; have HB := n1; have HM := n2; have HG := n3; have BX := n4; clear n1 n2 n3 n4 hb; have hx0 := (blk_cell BX.out 0).trans (rfl : _ = some (Value.int .i64 x.f0.f0)); have hx1 := (blk_cell BX.out 1).trans (rfl : _ = some (Value.int .i64 x.f0.f1)); have hlk := lookup_run (t := 107) (z := .bool false) (x.f0.f0, x.f0.f1) Try.underlying107 HM.out (by kernel_rfl); rw [get_ents] at hlk; simp only [dotV] at hlk; rw [cm1] at hlk))
     go_ret
     exact ⟨rfl, HB.out⟩
    ·rw [if_neg cm] at HQ
     by_cases cr : 0 ≤ x.f0.f0 ∧ x.f0.f0 < 6
     case neg =>
      rw [if_neg cr] at HQ
      exact absurd HQ (by simp)
     rw [if_pos cr] at HQ
     have HQ3 := Aside0.mk HQ
     clear HQ
     have cm1 : decide ((x.f0.f0, x.f0.f1) ∈ ds) = false := decide_eq_false cm
     have CM := Aside0.mk cm
     have cr0 : (0 ≤ x.f0.f0) = True := eq_true cr.1
     have cr1 : (x.f0.f0 < 6) = True := eq_true cr.2
     have cr2 : (x.f0.f0.toNat < 6) = True := eq_true (by omega)
     clear cm cr
     go_upto_region 9 with (first | ((with_reducible refine gate_callee (f := 27) rfl ?_); refine goesL_ (some 21) rfl rfl Try.func27 (by kernel_rfl) rfl #[.agg #[.int .i64 x.f0.f0, .int .i64 x.f0.f1, .slice A2 x.f1.length c2, .slice A3 x.f2.length c3]] rfl z5_24 ?_; (with_reducible refine (event_Check.calls k1 _ _ _ _ x.f1 _ _ x.f2 _ _ (Kd.C_below P2.out HB.out) L2.out (Kd.C_below P3.out HB.out) L3.out HE.out).mono ?_); rintro e_ w3 ⟨rfl, hb⟩; refine ⟨_, rfl, ?_⟩; have n1 := Aside0.mk (below_step HB.out hb); have n2 := Aside0.mk (blk_below HM.out hb); have n3 := Aside0.mk (blk_below HG.out hb); have n4 := Aside0.mk (blk_below BX.out hb); clear HB HM HG BX; have HB := n1; have HM := n2; have HG := n3; have BX := n4; clear n1 n2 n3 n4 hb; have hx0 := (blk_cell BX.out 0).trans (rfl : _ = some (Value.int .i64 x.f0.f0)); have hx1 := (blk_cell BX.out 1).trans (rfl : _ = some (Value.int .i64 x.f0.f1)); have hlk := lookup_run (t := 107) (z := .bool false) (x.f0.f0, x.f0.f1) Try.underlying107 HM.out (by kernel_rfl); rw [get_ents] at hlk; simp only [dotV] at hlk; rw [cm1] at hlk) | (refine wpList_store_new (x.f0.f0, x.f0.f1) (.bool true) rfl rfl (.tmp 29) (.tmp 31) (.const (.bool true)) rfl rfl rfl rfl Try.underlying107 HM.out ((find_ents _ ds 0 0).2 CM.out) ?_; intro w4 hm hg; have n1 := Aside0.mk (pw_below_grown HB.out (some bm) (below_size HB.out) hg (fun k hk => by injection hk with hk; subst hk; exact GB.out)); have n3 := Aside0.mk (blk_grown HG.out hg (by intro he; injection he with he; exact NE.out he)); have n4 := Aside0.mk (blk_grown BX.out hg (by intro he; injection he with he; exact NX.out he)); clear HB HM HG BX hlk hx0 hx1; have HB := n1; have HM := Aside0.mk (show MapIs w4 bm (ents (ds ++ [(x.f0.f0, x.f0.f1)])) (ds ++ [(x.f0.f0, x.f0.f1)]).length by rw [ents_snoc, List.length_append]; exact hm); have HG := n3; have BX := n4; clear n1 n3 n4 hm hg; have hx0 := (blk_cell BX.out 0).trans (rfl : _ = some (Value.int .i64 x.f0.f0)); have hx1 := (blk_cell BX.out 1).trans (rfl : _ = some (Value.int .i64 x.f0.f1))))
     have hrep : x.f0.f0.toNat < most.length := by have := LM.out; have := of_eq_true cr2; omega
     have hgc : w4.cell? ⟨gm, x.f0.f0.toNat, none⟩ = some (.int .i64 (rd most x.f0.f0)) := by
      rw [blk_cell HG.out]
      simp [nums, rd, List.getElem?_eq_getElem hrep, List.getD_eq_getElem?_getD]
     have hgf := blk_frozen HG.out x.f0.f0.toNat
     have hgs : ∀ v, (w4.setCell ⟨gm, x.f0.f0.toNat, none⟩ (.int .i64 v)).heap[gm]? = some (.cells (nums .i64 (most.set x.f0.f0.toNat v)).toArray 108 (0, 0)) := fun v => by
      rw [blk_set HG.out]
      simp [nums, List.map_set]
     have HS := Aside0.mk hgs
     clear hrep hgs
     go_wp2
     go_roundg k1
     case measure => have := HK.out; omega
     case rel => exact ⟨ds ++ [(x.f0.f0, x.f0.f1)], most.set x.f0.f0.toNat (wrap64 (rd most x.f0.f0 + 1)), wrap64 (i + 1), rfl, HQ3, ⟨by have := HK.out; omega⟩, ⟨((Below.heap_setCell _ ⟨gm, x.f0.f0.toNat, none⟩ _ bm (Ne.symm NE.out)).trans HM.out)⟩, ⟨HS.out _⟩, ⟨by rw [List.length_set]; exact LM.out⟩, ⟨below_set HB.out GG.out⟩⟩
   ·rw [if_neg ci] at HQ
    obtain rfl := Option.some.inj HQ
    have HH := H.out
    simp only at HH
    have H1 := Aside0.mk HH
    have ci1 : decide (i < (xs.length : Int)) = false := decide_eq_false ci
    have ci2 : (i < (xs.length : Int)) = False := eq_false ci
    clear ci HH H
    go_wp2
    clear ci1 ci2
    obtain ⟨wo, rfl⟩ : ∃ wo : World, wo = wr := ⟨_, rfl⟩
    have HB0 := HB; have HM0 := HM; have HG0 := HG
    clear HB HM HG
    go_loopg [42] k (fun kq v42 w' => ∃ (i : Int), v42 = .int .i64 i ∧ Aside0 (event_Closed.l1 kq xs ds most i = some r) ∧ Aside0 (kq ≤ k) ∧ Aside0 (MapIs w' bm (ents ds) ds.length) ∧ Aside0 (w'.heap[gm]? = some (.cells (nums .i64 most).toArray 108 (0, 0))) ∧ Aside0 (Below w.heap.size w w'))
    case atStart => exact ⟨0, rfl, H1, ⟨Nat.le_refl _⟩, HM0, HG0, HB0⟩
    case round =>
     clear H1 HM0 HG0 HB0 HK
     obtain ⟨i, rfl, HA, HK, HM, HG, HB⟩ := hrel
     cases gk with
     | zero => exact absurd HA.out (by simp [event_Closed.l1])
     | succ k2 =>
      have HQ := HA.out
      clear HA
      simp only [event_Closed.l1] at HQ
      by_cases ci : i < (xs.length : Int)
      case neg =>
       rw [if_neg ci] at HQ
       obtain rfl := Option.some.inj HQ
       have ci1 : decide (i < (xs.length : Int)) = false := decide_eq_false ci
       have ci2 : (i < (xs.length : Int)) = False := eq_false ci
       go_wp2
       go_ret
       exact ⟨rfl, HB.out⟩
      rw [if_pos ci] at HQ
      by_cases c0_ : 0 ≤ i
      case neg =>
       rw [if_neg c0_] at HQ
       exact absurd HQ (by simp)
      rw [if_pos c0_] at HQ
      replace HQ := Option.bind_eq_some_iff.mp HQ
      obtain ⟨b, h1, HQ⟩ := HQ
      have HE := Aside0.mk h1
      have HQ1 := Aside0.mk HQ
      clear h1 HQ
      obtain ⟨ad, A2, c2, A3, c3, e0, x0, x1, x2, x3, l2, g2, l3, g3⟩ := at_T30 HR.out i c0_ ci
      cases e0
      have x0 := pw_cell_below HB.out x0
      have x1 := pw_cell_below HB.out x1
      have x2 := pw_cell_below HB.out x2
      have x3 := pw_cell_below HB.out x3
      have ci1 : decide (i < (xs.length : Int)) = true := decide_eq_true ci
      have ci2 : (i < (xs.length : Int)) = True := eq_true ci
      have c01 : (0 ≤ i) = True := eq_true c0_
      clear ci c0_
      go_wp2
      have BX := Aside0.mk (heap_alloc_new wr (.cells #[.int .i64 (rd_T30 xs i).f0.f0, .int .i64 (rd_T30 xs i).f0.f1, .slice A2 (rd_T30 xs i).f1.length c2, .slice A3 (rd_T30 xs i).f2.length c3] 30))
      have hb := below_alloc (Below.refl wr.heap.size wr) (.cells #[.int .i64 (rd_T30 xs i).f0.f0, .int .i64 (rd_T30 xs i).f0.f1, .slice A2 (rd_T30 xs i).f1.length c2, .slice A3 (rd_T30 xs i).f2.length c3] 30)
      obtain ⟨bx, hbx⟩ : ∃ bx, bx = wr.heap.size := ⟨_, rfl⟩
      generalize wr.alloc (.cells #[.int .i64 (rd_T30 xs i).f0.f0, .int .i64 (rd_T30 xs i).f0.f1, .slice A2 (rd_T30 xs i).f1.length c2, .slice A3 (rd_T30 xs i).f2.length c3] 30) = w2 at BX hb ⊢
      rw [← hbx] at BX ⊢
      have n1 := Aside0.mk (below_step HB.out hb); have n2 := Aside0.mk (blk_below HM.out hb); have n3 := Aside0.mk (blk_below HG.out hb)
      clear HB HM HG hb x0 x1 x2 x3 hbx l3 g3
      have HB1 := n1; have HM1 := n2; have HG1 := n3
      clear n1 n2 n3
      generalize rd_T30 xs i = x at *
      have L2 := Aside0.mk l2; have P2 := Aside0.mk g2
      clear l2 g2
      go_loopg [9] k2 (fun mq v9 w' => ∃ (rep : Int), v9 = .int .i64 rep ∧ Aside0 (event_Closed.l2 mq x.f1 ds most rep = some b) ∧ Aside0 (mq ≤ k2) ∧ Aside0 (MapIs w' bm (ents ds) ds.length) ∧ Aside0 (w'.heap[gm]? = some (.cells (nums .i64 most).toArray 108 (0, 0))) ∧ Aside0 (w'.heap[bx]? = some (.cells #[.int .i64 x.f0.f0, .int .i64 x.f0.f1, .slice A2 x.f1.length c2, .slice A3 x.f2.length c3] 30 (0, 0))) ∧ Aside0 (Below w.heap.size w w'))
      case atStart => exact ⟨1, rfl, HE, ⟨Nat.le_refl _⟩, HM1, HG1, BX, HB1⟩
      case round =>
       clear HE HM1 HG1 HB1 BX
       obtain ⟨rep, rfl, HA, HM2, HM, HG, BX, HB⟩ := hrel
       cases gk with
       | zero => exact absurd HA.out (by simp [event_Closed.l2])
       | succ m1 =>
        have HJ := HA.out
        clear HA
        simp only [event_Closed.l2] at HJ
        by_cases cp : rep ≤ 5
        case neg =>
         rw [if_neg cp] at HJ
         obtain rfl := Option.some.inj HJ
         have HQ := HQ1.out
         rw [if_pos rfl] at HQ
         have HQ3 := Aside0.mk HQ
         have cp1 : decide (rep ≤ 5) = false := decide_eq_false cp
         clear HQ cp
         go_wp2
         go_roundg k2
         case measure => have := HK.out; omega
         case rel => exact ⟨wrap64 (i + 1), rfl, HQ3, ⟨by have := HK.out; omega⟩, HM, HG, HB⟩
        rw [if_pos cp] at HJ
        by_cases c0_ : 0 ≤ rep
        case neg =>
         rw [if_neg c0_] at HJ
         exact absurd HJ (by simp)
        rw [if_pos c0_] at HJ
        replace HJ := Option.bind_eq_some_iff.mp HJ
        obtain ⟨n, h1, HJ⟩ := HJ
        have HE := Aside0.mk h1
        have HJ1 := Aside0.mk HJ
        have cp1 : decide (rep ≤ 5) = true := decide_eq_true cp
        have cp2 : (0 ≤ rep) = True := eq_true c0_
        have cp3 : (rep < 6) = True := eq_true (by omega)
        have cp4 : (rep.toNat < 6) = True := eq_true (by omega)
        have hrep : rep.toNat < most.length := by have := LM.out; omega
        have HCE := Aside0.mk (show (nums .i64 most).toArray[rep.toNat]? = some (.int .i64 (rd most rep)) by simp [nums, rd, List.getElem?_eq_getElem hrep, List.getD_eq_getElem?_getD])
        have hx2 := (blk_cell BX.out 2).trans (rfl : _ = some (Value.slice A2 x.f1.length c2))
        clear h1 HJ cp c0_ hrep
        go_upto_region 18 with (first | ((with_reducible refine gate_callee (f := 65) rfl ?_); refine goesL_ (some 53) rfl rfl Try.func65 (by kernel_rfl) rfl #[.slice A2 x.f1.length c2, .int .i64 rep] rfl z5_24 ?_; (with_reducible refine (clock_Get.calls _ _ x.f1 rep _ _ (Kd.C_below P2.out HB.out) L2.out HE.out).mono ?_); rintro e_ w3 ⟨rfl, hb⟩; refine ⟨_, rfl, ?_⟩; have n1 := Aside0.mk (below_step HB.out hb); have n2 := Aside0.mk (blk_below HM.out hb); have n3 := Aside0.mk (blk_below HG.out hb); have n4 := Aside0.mk (blk_below BX.out hb); clear HB HM HG BX hx2; have HB := n1; have HM := n2; have HG := n3; have BX := n4; clear n1 n2 n3 n4 hb; have hgc := (blk_cell HG.out rep.toNat).trans HCE.out))
        replace HJ1 := HJ1.out
        by_cases cn : rd most rep < n
        ·rw [if_pos cn] at HJ1
         obtain rfl := Option.some.inj HJ1
         have HQ := HQ1.out
         rw [if_neg (show ¬ (false = true) by decide)] at HQ
         obtain rfl := Option.some.inj HQ
         have cn1 : decide (rd most rep < n) = true := decide_eq_true cn
         go_wp2
         go_ret
         exact ⟨rfl, HB.out⟩
        rw [if_neg cn] at HJ1
        have cn1 : decide (rd most rep < n) = false := decide_eq_false cn
        replace HJ1 := Option.bind_eq_some_iff.mp HJ1
        obtain ⟨b3, h1, HJ1⟩ := HJ1
        have HF := Aside0.mk h1
        replace HJ1 := Aside0.mk HJ1
        clear h1 cn
        go_wp2
        clear hgc
        have HB2 := HB; have HMa := HM; have HG2 := HG; have BX2 := BX
        clear HB HM HG BX
        go_loopg [11] m1 (fun nq v11 w' => ∃ (j : Int), v11 = .int .i64 j ∧ Aside0 (event_Closed.l3 nq ds rep n j = some b3) ∧ Aside0 (nq ≤ m1) ∧ Aside0 (MapIs w' bm (ents ds) ds.length) ∧ Aside0 (w'.heap[gm]? = some (.cells (nums .i64 most).toArray 108 (0, 0))) ∧ Aside0 (w'.heap[bx]? = some (.cells #[.int .i64 x.f0.f0, .int .i64 x.f0.f1, .slice A2 x.f1.length c2, .slice A3 x.f2.length c3] 30 (0, 0))) ∧ Aside0 (Below w.heap.size w w'))
        case atStart => exact ⟨1, rfl, HF, ⟨Nat.le_refl _⟩, HMa, HG2, BX2, HB2⟩
        case round =>
         clear HF HMa HG2 BX2 HB2
         obtain ⟨j, rfl, HA, HN, HM, HG, BX, HB⟩ := hrel
         cases gk with
         | zero => exact absurd HA.out (by simp [event_Closed.l3])
         | succ n1 =>
          have HL := HA.out
          clear HA
          simp only [event_Closed.l3] at HL
          by_cases cj : j ≤ n
          case neg =>
           rw [if_neg cj] at HL
           obtain rfl := Option.some.inj HL
           have HJ := HJ1.out
           rw [if_pos rfl] at HJ
           have HJ3 := Aside0.mk HJ
           have cj1 : decide (j ≤ n) = false := decide_eq_false cj
           clear HJ cj
           go_wp2
           go_roundg m1
           case measure => have := HM2.out; omega
           case rel => exact ⟨wrap64 (rep + 1), rfl, HJ3, ⟨by have := HM2.out; omega⟩, HM, HG, BX, HB⟩
          rw [if_pos cj] at HL
          have cj1 : decide (j ≤ n) = true := decide_eq_true cj
          have hlk := lookup_run (t := 107) (z := .bool false) (rep, j) Try.underlying107 HM.out (by kernel_rfl)
          rw [get_ents] at hlk
          simp only [dotV] at hlk
          by_cases cm : (rep, j) ∈ ds
          ·rw [if_pos cm] at HL
           rw [decide_eq_true cm] at hlk
           have HL3 := Aside0.mk HL
           clear HL cj cm
           go_wp2
           go_roundg n1
           case measure => have := HN.out; omega
           case rel => exact ⟨wrap64 (j + 1), rfl, HL3, ⟨by have := HN.out; omega⟩, HM, HG, BX, HB⟩
          ·rw [if_neg cm] at HL
           obtain rfl := Option.some.inj HL
           have HJ := HJ1.out
           rw [if_neg (show ¬ (false = true) by decide)] at HJ
           obtain rfl := Option.some.inj HJ
           have HQ := HQ1.out
           rw [if_neg (show ¬ (false = true) by decide)] at HQ
           obtain rfl := Option.some.inj HQ
           rw [decide_eq_false cm] at hlk
           clear cm cj
           go_wp2
           go_ret
           exact ⟨rfl, HB.out⟩
def hucksterlaw05_awake.f (k : Nat)  : Option (Bool) := (some (([(⟨1, 0, (⟨#[107]⟩ : ByteArray), 0, 0, (⟨#[]⟩ : ByteArray)⟩ : S48)] : List (S48)) : List (S48))).bind fun y120 => ((some (([1] : List Int) : List Int)).bind fun y124 => ((event_Ahead.f 1 1 ([] : List Int) y120 2 1 y124 y120).bind fun t128 => (if t128 = true then ((event_Ahead.f 2 1 y124 y120 1 1 ([] : List Int) y120).bind fun t129 => (if t129 = true then (some false) else ((event_Closed.f k (([(⟨(⟨2, 1⟩ : S25), y124, y120⟩ : S30), (⟨(⟨1, 1⟩ : S25), ([] : List Int), y120⟩ : S30)] : List (S30)))).bind fun t133 => (if t133 = true then ((event_Check.f k 2 1 y124 y120).bind fun t134 => (some (t134 == 0))) else (some false))))) else (some false))))
theorem hucksterlaw05_awake.mono : ∀ k, LeO (hucksterlaw05_awake.f k ) (hucksterlaw05_awake.f (k + 1) ) := by
 intro  k
 unfold hucksterlaw05_awake.f
 repeat' first
   | (with_reducible exact event_Check.mono _ _ _ _ _)
   | (with_reducible exact event_Closed.mono _ _)
   | (with_reducible exact LeO.refl _)
   | (with_reducible exact LeO.none _)
   | (with_reducible refine LeO.ite ?_ ?_)
   | (with_reducible refine LeO.bind ?_ (fun _ => ?_))
   | exact event_Check.mono _ _ _ _ _
   | exact event_Closed.mono _ _
   | exact LeO.none _
   | refine LeO.ite ?_ ?_
   | refine LeO.bind ?_ (fun _ => ?_)
set_option maxHeartbeats 8000000 in
set_option maxRecDepth 100000 in
theorem hucksterlaw05_awake.calls (k : Nat)  (r : Bool) (w : World) (h : hucksterlaw05_awake.f k  = some r) :
  Calls Try.prog 12 #[] w fun e w' => e = .returned (.bool r) ∧ Below w.heap.size w w' := by
 have hu25 := Try.underlying25
 have hu48 := Try.underlying48
 have hu30 := Try.underlying30
 have HB := Aside0.mk (Below.refl w.heap.size w)
 have H : ((some (([(⟨1, 0, (⟨#[107]⟩ : ByteArray), 0, 0, (⟨#[]⟩ : ByteArray)⟩ : S48)] : List (S48)) : List (S48))).bind fun y120 => ((some (([1] : List Int) : List Int)).bind fun y124 => ((event_Ahead.f 1 1 ([] : List Int) y120 2 1 y124 y120).bind fun t128 => (if t128 = true then ((event_Ahead.f 2 1 y124 y120 1 1 ([] : List Int) y120).bind fun t129 => (if t129 = true then (some false) else ((event_Closed.f k (([(⟨(⟨2, 1⟩ : S25), y124, y120⟩ : S30), (⟨(⟨1, 1⟩ : S25), ([] : List Int), y120⟩ : S30)] : List (S30)))).bind fun t133 => (if t133 = true then ((event_Check.f k 2 1 y124 y120).bind fun t134 => (some (t134 == 0))) else (some false))))) else (some false))))) = some r := h
 clear h
 obtain ⟨y120, hy120⟩ : ∃ y_ : List (S48), y_ = (([(⟨1, 0, (⟨#[107]⟩ : ByteArray), 0, 0, (⟨#[]⟩ : ByteArray)⟩ : S48)] : List (S48))) := ⟨_, rfl⟩
 replace H : ((some (([1] : List Int) : List Int)).bind fun y124 => ((event_Ahead.f 1 1 ([] : List Int) y120 2 1 y124 y120).bind fun t128 => (if t128 = true then ((event_Ahead.f 2 1 y124 y120 1 1 ([] : List Int) y120).bind fun t129 => (if t129 = true then (some false) else ((event_Closed.f k (([(⟨(⟨2, 1⟩ : S25), y124, y120⟩ : S30), (⟨(⟨1, 1⟩ : S25), ([] : List Int), y120⟩ : S30)] : List (S30)))).bind fun t133 => (if t133 = true then ((event_Check.f k 2 1 y124 y120).bind fun t134 => (some (t134 == 0))) else (some false))))) else (some false)))) = some r := by first | (rw [hy120]; with_reducible exact H) | (have H2_ := (Option.bind_some _ _).symm.trans H; rw [hy120]; with_reducible exact H2_) | (have H2_ := (Option.bind_some _ _).symm.trans H; with_reducible exact H2_) | with_reducible exact H | (rw [hy120]; exact H) | exact H
 have Ny120 := Aside0.mk hy120
 clear hy120
 obtain ⟨y124, hy124⟩ : ∃ y_ : List Int, y_ = (([1] : List Int)) := ⟨_, rfl⟩
 replace H : ((event_Ahead.f 1 1 ([] : List Int) y120 2 1 y124 y120).bind fun t128 => (if t128 = true then ((event_Ahead.f 2 1 y124 y120 1 1 ([] : List Int) y120).bind fun t129 => (if t129 = true then (some false) else ((event_Closed.f k (([(⟨(⟨2, 1⟩ : S25), y124, y120⟩ : S30), (⟨(⟨1, 1⟩ : S25), ([] : List Int), y120⟩ : S30)] : List (S30)))).bind fun t133 => (if t133 = true then ((event_Check.f k 2 1 y124 y120).bind fun t134 => (some (t134 == 0))) else (some false))))) else (some false))) = some r := by first | (rw [hy124]; with_reducible exact H) | (have H2_ := (Option.bind_some _ _).symm.trans H; rw [hy124]; with_reducible exact H2_) | (have H2_ := (Option.bind_some _ _).symm.trans H; with_reducible exact H2_) | with_reducible exact H | (rw [hy124]; exact H) | exact H
 have Ny124 := Aside0.mk hy124
 clear hy124
 replace H := Option.bind_eq_some_iff.mp H
 obtain ⟨t128, A10, H⟩ := H
 replace H : (if t128 = true then ((event_Ahead.f 2 1 y124 y120 1 1 ([] : List Int) y120).bind fun t129 => (if t129 = true then (some false) else ((event_Closed.f k (([(⟨(⟨2, 1⟩ : S25), y124, y120⟩ : S30), (⟨(⟨1, 1⟩ : S25), ([] : List Int), y120⟩ : S30)] : List (S30)))).bind fun t133 => (if t133 = true then ((event_Check.f k 2 1 y124 y120).bind fun t134 => (some (t134 == 0))) else (some false))))) else (some false)) = some r := H
 have A1 := Aside0.mk A10
 clear A10
 by_cases c2 : t128 = true
 ·subst c2
  have H1 : ((event_Ahead.f 2 1 y124 y120 1 1 ([] : List Int) y120).bind fun t129 => (if t129 = true then (some false) else ((event_Closed.f k (([(⟨(⟨2, 1⟩ : S25), y124, y120⟩ : S30), (⟨(⟨1, 1⟩ : S25), ([] : List Int), y120⟩ : S30)] : List (S30)))).bind fun t133 => (if t133 = true then ((event_Check.f k 2 1 y124 y120).bind fun t134 => (some (t134 == 0))) else (some false))))) = some r := by rw [if_pos rfl] at H; exact H
  clear H
  have H := H1
  clear H1
  replace H := Option.bind_eq_some_iff.mp H
  obtain ⟨t129, A30, H⟩ := H
  replace H : (if t129 = true then (some false) else ((event_Closed.f k (([(⟨(⟨2, 1⟩ : S25), y124, y120⟩ : S30), (⟨(⟨1, 1⟩ : S25), ([] : List Int), y120⟩ : S30)] : List (S30)))).bind fun t133 => (if t133 = true then ((event_Check.f k 2 1 y124 y120).bind fun t134 => (some (t134 == 0))) else (some false)))) = some r := H
  have A3 := Aside0.mk A30
  clear A30
  by_cases c4 : t129 = true
  ·subst c4
   have H1 : (some false) = some r := by rw [if_pos rfl] at H; exact H
   clear H
   have H := H1
   clear H1
   obtain rfl := Option.some.inj H
   go_enter Try.func12, Try.ntmps12
   go_wp2_with (first | ((with_reducible refine gate_dst (N := 5) rfl ?_); (try (refine gate_guard (by rfl) ?_; dsimp only)); refine Kd.R_lit k48 _ 48 ?hg (N := 5) ?hd (xs := ([(⟨1, 0, (⟨#[107]⟩ : ByteArray), 0, 0, (⟨#[]⟩ : ByteArray)⟩ : S48)] : List (S48))) (inner := [.int .i64 1, .int .i64 0, .string (⟨#[107]⟩ : ByteArray), .int .i64 0, .int .i64 0, .string (⟨#[]⟩ : ByteArray)]) (ok := fun _ => True) (okp := fun _ => True) ?hr ?hp (fun _ hk => hk) trivial (Below.refl _ _) (Nat.le_refl _) (by simp) ?_; (case hd => rfl); (case hg => rfl); (case hr => exact z5_15); (case hp => exact z5_7); intro v121 w5 ho6 hb hg_ hnew_; clear hg_ hnew_; (first | rw [← Ny120.out] at ho6 | (simp only [Int.reduceToNat] at ho6; rw [← Ny120.out] at ho6)); have n0_ := Aside0.mk (Kd.R_lower ho6 (below_size z5_3)); have n1_ := Aside0.mk (below_step z5_3 hb); clear HB; have HO122 := n0_; have HB := n1_; clear n0_ n1_; clear hb ho6; obtain ⟨Ao7, co7, eo7⟩ := Kd.R_slice HO122.out; subst eo7) | ((with_reducible refine gate_dst (N := 1) rfl ?_); (try (refine gate_guard (by rfl) ?_; dsimp only)); refine box_event ?hg (N := 1) ?hd (cs := #[.int .i64 0, .int .i64 0, .slice none 0 0, .slice none 0 0]) (t := 30) ?hr ?_; (case hd => rfl); (case hg => rfl); (case hr => exact z5_15); intro gb123 hg w8 hbox hb; have n0_ := Aside0.mk (Kd.R_below z5_6 hb); have n1_ := Aside0.mk (below_step z5_3 hb); have n2_ := Aside0.mk (hbox); have n3_ := Aside0.mk ((by rw [hg]; exact (below_size z5_3) : w.heap.size ≤ gb123)); have n4_ := Aside0.mk ((by rw [hg]; exact (below_size z5_3) : w.heap.size ≤ gb123)); clear HO122; clear HB; have HO122 := n0_; have HB := n1_; have BK123 := n2_; have GW123 := n3_; have GE123 := n4_; clear n0_ n1_ n2_ n3_ n4_; clear hb hbox hg; have hcz9_0 : w8.cell? ⟨gb123, 0, none⟩ = some (.int .i64 0) := (blk_cell BK123.out 0).trans rfl; have hcz9_1 : w8.cell? ⟨gb123, 1, none⟩ = some (.int .i64 0) := (blk_cell BK123.out 1).trans rfl; have hcz9_2 : w8.cell? ⟨gb123, 2, none⟩ = some (.slice none 0 0) := (blk_cell BK123.out 2).trans rfl; have hcz9_3 : w8.cell? ⟨gb123, 3, none⟩ = some (.slice none 0 0) := (blk_cell BK123.out 3).trans rfl; have hfz9_0 := blk_frozen BK123.out 0; have hfz9_1 := blk_frozen BK123.out 1; have hfz9_2 := blk_frozen BK123.out 2; have hfz9_3 := blk_frozen BK123.out 3) | ((with_reducible refine gate_dst (N := 8) rfl ?_); (try (refine gate_guard (by rfl) ?_; dsimp only)); refine Kd.R_lit (Kd.int .i64) _ 3 ?hg (N := 8) ?hd (xs := ([1] : List Int)) (inner := [.int .i64 1]) (ok := fun _ => True) (okp := fun _ => True) ?hr ?hp (fun _ hk => hk) trivial (Below.refl _ _) (Nat.le_refl _) (by simp) ?_; (case hd => rfl); (case hg => rfl); (case hr => exact z5_15); (case hp => exact z5_23); intro v125 w10 ho11 hb hg_ hnew_; clear hg_ hnew_; (first | rw [← Ny124.out] at ho11 | (simp only [Int.reduceToNat] at ho11; rw [← Ny124.out] at ho11)); have n0_ := Aside0.mk (Kd.R_below (by (with_reducible repeat (first | apply Kd.R_alloc | apply Kd.R_drewN | apply Kd.R_drew)); exact (Kd.R_mono (Kd.R_far (p := ⟨gb123, 3, none⟩) (Kd.R_far (p := ⟨gb123, 2, none⟩) (Kd.R_far (p := ⟨gb123, 1, none⟩) (Kd.R_far (p := ⟨gb123, 0, none⟩) (Kd.R_types HO122.out BK123.out (by decide)) (fun _ hk => hk.2) (.int .i64 1)) (fun _ hk => hk.2) (.int .i64 1)) (fun _ hk => hk.2) (.slice none 0 0)) (fun _ hk => hk.2) (.slice Ao7 y120.length co7)) (fun _ h_ => h_.1))) hb); have n1_ := Aside0.mk (Kd.R_lower ho11 (below_size z5_0)); have n2_ := Aside0.mk (blk_below (g := gb123) (o := .cells #[.int .i64 1, .int .i64 1, .slice none 0 0, .slice Ao7 y120.length co7] 30 (0, 0)) z5_1 hb); have n3_ := Aside0.mk (below_step z5_0 hb); clear HO122; clear BK123; clear HB; have HO122 := n0_; have HO126 := n1_; have BK123 := n2_; have HB := n3_; clear n0_ n1_ n2_ n3_; clear hb ho11; have hcz12_0 : w10.cell? ⟨gb123, 0, none⟩ = some (.int .i64 1) := (blk_cell BK123.out 0).trans rfl; have hcz12_1 : w10.cell? ⟨gb123, 1, none⟩ = some (.int .i64 1) := (blk_cell BK123.out 1).trans rfl; have hcz12_2 : w10.cell? ⟨gb123, 2, none⟩ = some (.slice none 0 0) := (blk_cell BK123.out 2).trans rfl; have hcz12_3 : w10.cell? ⟨gb123, 3, none⟩ = some (.slice Ao7 y120.length co7) := (blk_cell BK123.out 3).trans rfl; have hfz12_0 := blk_frozen BK123.out 0; have hfz12_1 := blk_frozen BK123.out 1; have hfz12_2 := blk_frozen BK123.out 2; have hfz12_3 := blk_frozen BK123.out 3; obtain ⟨Ao13, co13, eo13⟩ := Kd.R_slice HO126.out; subst eo13) | ((with_reducible refine gate_dst (N := 2) rfl ?_); (try (refine gate_guard (by rfl) ?_; dsimp only)); refine box_event ?hg (N := 2) ?hd (cs := #[.int .i64 0, .int .i64 0, .slice none 0 0, .slice none 0 0]) (t := 30) ?hr ?_; (case hd => rfl); (case hg => rfl); (case hr => exact z5_15); intro gb127 hg w14 hbox hb; have n0_ := Aside0.mk (Kd.R_below z5_6 hb); have n1_ := Aside0.mk (Kd.R_below z5_14 hb); have n2_ := Aside0.mk (blk_below (g := gb123) (o := .cells #[.int .i64 1, .int .i64 1, .slice none 0 0, .slice Ao7 y120.length co7] 30 (0, 0)) z5_4 hb); have n3_ := Aside0.mk (below_step z5_0 hb); have n4_ := Aside0.mk (hbox); have n5_ := Aside0.mk ((by rw [hg]; exact (below_size z5_0) : w.heap.size ≤ gb127)); have n6_ := Aside0.mk ((by rw [hg]; exact (below_size z5_0) : w.heap.size ≤ gb127)); have n7_ := Aside0.mk ((by rw [hg]; exact Nat.ne_of_lt (blk_lt (g := gb123) (o := .cells #[.int .i64 1, .int .i64 1, .slice none 0 0, .slice Ao7 y120.length co7] 30 (0, 0)) z5_4) : gb123 ≠ gb127)); have n8_ := Aside0.mk ((by rw [hg]; exact Nat.ne_of_gt (blk_lt (g := gb123) (o := .cells #[.int .i64 1, .int .i64 1, .slice none 0 0, .slice Ao7 y120.length co7] 30 (0, 0)) z5_4) : gb127 ≠ gb123)); clear HO122; clear HO126; clear BK123; clear HB; have HO122 := n0_; have HO126 := n1_; have BK123 := n2_; have HB := n3_; have BK127 := n4_; have GW127 := n5_; have GE127 := n6_; have NB123_127 := n7_; have NB127_123 := n8_; clear n0_ n1_ n2_ n3_ n4_ n5_ n6_ n7_ n8_; clear hb hbox hg; have hnb15 := NB127_123.out; have hnc15 := NB123_127.out; have hcz16_0 : w14.cell? ⟨gb127, 0, none⟩ = some (.int .i64 0) := (blk_cell BK127.out 0).trans rfl; have hcz16_1 : w14.cell? ⟨gb127, 1, none⟩ = some (.int .i64 0) := (blk_cell BK127.out 1).trans rfl; have hcz16_2 : w14.cell? ⟨gb127, 2, none⟩ = some (.slice none 0 0) := (blk_cell BK127.out 2).trans rfl; have hcz16_3 : w14.cell? ⟨gb127, 3, none⟩ = some (.slice none 0 0) := (blk_cell BK127.out 3).trans rfl; have hfz16_0 := blk_frozen BK127.out 0; have hfz16_1 := blk_frozen BK127.out 1; have hfz16_2 := blk_frozen BK127.out 2; have hfz16_3 := blk_frozen BK127.out 3; have hcz17_0 : w14.cell? ⟨gb123, 0, none⟩ = some (.int .i64 1) := (blk_cell BK123.out 0).trans rfl; have hcz17_1 : w14.cell? ⟨gb123, 1, none⟩ = some (.int .i64 1) := (blk_cell BK123.out 1).trans rfl; have hcz17_2 : w14.cell? ⟨gb123, 2, none⟩ = some (.slice none 0 0) := (blk_cell BK123.out 2).trans rfl; have hcz17_3 : w14.cell? ⟨gb123, 3, none⟩ = some (.slice Ao7 y120.length co7) := (blk_cell BK123.out 3).trans rfl; have hfz17_0 := blk_frozen BK123.out 0; have hfz17_1 := blk_frozen BK123.out 1; have hfz17_2 := blk_frozen BK123.out 2; have hfz17_3 := blk_frozen BK123.out 3) | ((with_reducible refine gate_callee (f := 21) rfl ?_); refine goesL_ (some 14) rfl rfl Try.func21 (by kernel_rfl) rfl #[.agg #[.int .i64 1, .int .i64 1, .slice none 0 0, .slice Ao7 y120.length co7], .agg #[.int .i64 2, .int .i64 1, .slice Ao13 y124.length co13, .slice Ao7 y120.length co7]] rfl z5_22 ?_; (refine (event_Ahead.calls 1 1 _ _ ([] : List Int) _ _ y120 2 1 _ _ y124 _ _ y120 true _ ?side1 ?side2 ?side3 ?side4 ?side5 ?side6 ?side7 ?side8 A1.out).mono ?_); (case side1 => exact Kd.C_nil _ _); (case side2 => exact Nat.le_refl _); (case side3 => refine (Kd.R_reads' (e := 48) (base := w.heap.size) (ok := fun k_ => True) (n := y120.length) (c := co7) ?_).2.2; exact z5_13); (case side4 => exact z5_21); (case side5 => refine (Kd.R_reads' (e := 3) (base := w.heap.size) (ok := fun k_ => True) (n := y124.length) (c := co13) ?_).2.2; exact z5_20); (case side6 => exact z5_25); (case side7 => refine (Kd.R_reads' (e := 48) (base := w.heap.size) (ok := fun k_ => True) (n := y120.length) (c := co7) ?_).2.2; exact z5_13); (case side8 => exact z5_21); rintro e w18 ⟨rfl, hb⟩; refine ⟨_, rfl, ?_⟩; have n0_ := Aside0.mk (Kd.R_below z5_13 hb); have n1_ := Aside0.mk (Kd.R_below z5_20 hb); have n2_ := Aside0.mk (blk_below (g := gb123) (o := .cells #[.int .i64 1, .int .i64 1, .slice none 0 0, .slice Ao7 y120.length co7] 30 (0, 0)) z5_5 hb); have n3_ := Aside0.mk (blk_below (g := gb127) (o := .cells #[.int .i64 2, .int .i64 1, .slice Ao13 y124.length co13, .slice Ao7 y120.length co7] 30 (0, 0)) (by (with_reducible repeat (first | refine blk_drewN ?_ _ | refine blk_drew ?_ | refine blk_alloc ?_ _)); refine blk_put (cs := #[.int .i64 2, .int .i64 1, .slice Ao13 y124.length co13, .slice none 0 0]) ?_ 3 _ rfl; (with_reducible repeat (first | refine blk_drewN ?_ _ | refine blk_drew ?_ | refine blk_alloc ?_ _)); refine blk_put (cs := #[.int .i64 2, .int .i64 1, .slice none 0 0, .slice none 0 0]) ?_ 2 _ rfl; (with_reducible repeat (first | refine blk_drewN ?_ _ | refine blk_drew ?_ | refine blk_alloc ?_ _)); refine blk_put (cs := #[.int .i64 2, .int .i64 0, .slice none 0 0, .slice none 0 0]) ?_ 1 _ rfl; (with_reducible repeat (first | refine blk_drewN ?_ _ | refine blk_drew ?_ | refine blk_alloc ?_ _)); refine blk_put (cs := #[.int .i64 0, .int .i64 0, .slice none 0 0, .slice none 0 0]) ?_ 0 _ rfl; (with_reducible repeat (first | refine blk_drewN ?_ _ | refine blk_drew ?_ | refine blk_alloc ?_ _)); exact BK127.out) hb); have n4_ := Aside0.mk (below_step z5_2 hb); clear HO122; clear HO126; clear BK123; clear BK127; clear HB; have HO122 := n0_; have HO126 := n1_; have BK123 := n2_; have BK127 := n3_; have HB := n4_; clear n0_ n1_ n2_ n3_ n4_; (try clear hb); (try clear hb2); (try clear hk); (try clear hi); have hcz19_0 : w18.cell? ⟨gb127, 0, none⟩ = some (.int .i64 2) := (blk_cell BK127.out 0).trans rfl; have hcz19_1 : w18.cell? ⟨gb127, 1, none⟩ = some (.int .i64 1) := (blk_cell BK127.out 1).trans rfl; have hcz19_2 : w18.cell? ⟨gb127, 2, none⟩ = some (.slice Ao13 y124.length co13) := (blk_cell BK127.out 2).trans rfl; have hcz19_3 : w18.cell? ⟨gb127, 3, none⟩ = some (.slice Ao7 y120.length co7) := (blk_cell BK127.out 3).trans rfl; have hfz19_0 := blk_frozen BK127.out 0; have hfz19_1 := blk_frozen BK127.out 1; have hfz19_2 := blk_frozen BK127.out 2; have hfz19_3 := blk_frozen BK127.out 3; have hcz20_0 : w18.cell? ⟨gb123, 0, none⟩ = some (.int .i64 1) := (blk_cell BK123.out 0).trans rfl; have hcz20_1 : w18.cell? ⟨gb123, 1, none⟩ = some (.int .i64 1) := (blk_cell BK123.out 1).trans rfl; have hcz20_2 : w18.cell? ⟨gb123, 2, none⟩ = some (.slice none 0 0) := (blk_cell BK123.out 2).trans rfl; have hcz20_3 : w18.cell? ⟨gb123, 3, none⟩ = some (.slice Ao7 y120.length co7) := (blk_cell BK123.out 3).trans rfl; have hfz20_0 := blk_frozen BK123.out 0; have hfz20_1 := blk_frozen BK123.out 1; have hfz20_2 := blk_frozen BK123.out 2; have hfz20_3 := blk_frozen BK123.out 3) | (go_at_call 21; (refine (event_Ahead.calls 2 1 _ _ y124 _ _ y120 1 1 _ _ ([] : List Int) _ _ y120 true _ ?side1 ?side2 ?side3 ?side4 ?side5 ?side6 ?side7 ?side8 A3.out).mono ?_); (case side1 => exact z5_16); (case side2 => exact z5_25); (case side3 => exact z5_9); (case side4 => exact z5_21); (case side5 => exact Kd.C_nil _ _); (case side6 => exact Nat.le_refl _); (case side7 => exact z5_9); (case side8 => exact z5_21); rintro e w21 ⟨rfl, hb⟩; have n0_ := Aside0.mk (Kd.R_below z5_6 hb); have n1_ := Aside0.mk (Kd.R_below z5_14 hb); have n2_ := Aside0.mk (blk_below (g := gb123) (o := .cells #[.int .i64 1, .int .i64 1, .slice none 0 0, .slice Ao7 y120.length co7] 30 (0, 0)) z5_4 hb); have n3_ := Aside0.mk (blk_below (g := gb127) (o := .cells #[.int .i64 2, .int .i64 1, .slice Ao13 y124.length co13, .slice Ao7 y120.length co7] 30 (0, 0)) z5_8 hb); have n4_ := Aside0.mk (below_step z5_2 hb); clear HO122; clear HO126; clear BK123; clear BK127; clear HB; have HO122 := n0_; have HO126 := n1_; have BK123 := n2_; have BK127 := n3_; have HB := n4_; clear n0_ n1_ n2_ n3_ n4_; (try clear hb); (try clear hb2); (try clear hk); (try clear hi)))
   go_ret
   exact ⟨by first | rfl | (simp [errW_none, errW_some] <;> rfl) | (simp [*, errW_none, errW_some] <;> rfl), by repeat (first | (with_reducible first | exact HB.out | apply below_alloc | apply pw_below_drewN | apply below_drew1 | refine below_set ?_ GE123.out | refine below_set ?_ GE127.out) | exact HB.out)⟩
  ·replace c4 := Bool.eq_false_iff.mpr c4
   subst c4
   have H1 : ((event_Closed.f k (([(⟨(⟨2, 1⟩ : S25), y124, y120⟩ : S30), (⟨(⟨1, 1⟩ : S25), ([] : List Int), y120⟩ : S30)] : List (S30)))).bind fun t133 => (if t133 = true then ((event_Check.f k 2 1 y124 y120).bind fun t134 => (some (t134 == 0))) else (some false))) = some r := by rw [if_neg (show ¬ (false = true) by decide)] at H; exact H
   clear H
   have H := H1
   clear H1
   obtain ⟨y130, hy130⟩ : ∃ y_ : List (S30), y_ = (([(⟨(⟨2, 1⟩ : S25), y124, y120⟩ : S30), (⟨(⟨1, 1⟩ : S25), ([] : List Int), y120⟩ : S30)] : List (S30))) := ⟨_, rfl⟩
   replace H : ((event_Closed.f k y130).bind fun t133 => (if t133 = true then ((event_Check.f k 2 1 y124 y120).bind fun t134 => (some (t134 == 0))) else (some false))) = some r := by first | (rw [hy130]; with_reducible exact H) | (have H2_ := (Option.bind_some _ _).symm.trans H; rw [hy130]; with_reducible exact H2_) | (have H2_ := (Option.bind_some _ _).symm.trans H; with_reducible exact H2_) | with_reducible exact H | (rw [hy130]; exact H) | exact H
   have Ny130 := Aside0.mk hy130
   clear hy130
   replace H := Option.bind_eq_some_iff.mp H
   obtain ⟨t133, A220, H⟩ := H
   replace H : (if t133 = true then ((event_Check.f k 2 1 y124 y120).bind fun t134 => (some (t134 == 0))) else (some false)) = some r := H
   have A22 := Aside0.mk A220
   clear A220
   by_cases c23 : t133 = true
   ·subst c23
    have H1 : ((event_Check.f k 2 1 y124 y120).bind fun t134 => (some (t134 == 0))) = some r := by rw [if_pos rfl] at H; exact H
    clear H
    have H := H1
    clear H1
    replace H := Option.bind_eq_some_iff.mp H
    obtain ⟨t134, A240, H⟩ := H
    replace H : (some (t134 == 0)) = some r := H
    have A24 := Aside0.mk A240
    clear A240
    obtain rfl := Option.some.inj H
    go_enter Try.func12, Try.ntmps12
    go_wp2_with (first | ((with_reducible refine gate_dst (N := 5) rfl ?_); (try (refine gate_guard (by rfl) ?_; dsimp only)); refine Kd.R_lit k48 _ 48 ?hg (N := 5) ?hd (xs := ([(⟨1, 0, (⟨#[107]⟩ : ByteArray), 0, 0, (⟨#[]⟩ : ByteArray)⟩ : S48)] : List (S48))) (inner := [.int .i64 1, .int .i64 0, .string (⟨#[107]⟩ : ByteArray), .int .i64 0, .int .i64 0, .string (⟨#[]⟩ : ByteArray)]) (ok := fun _ => True) (okp := fun _ => True) ?hr ?hp (fun _ hk => hk) trivial (Below.refl _ _) (Nat.le_refl _) (by simp) ?_; (case hd => rfl); (case hg => rfl); (case hr => exact z5_15); (case hp => exact z5_7); intro v121 w25 ho26 hb hg_ hnew_; clear hg_ hnew_; (first | rw [← Ny120.out] at ho26 | (simp only [Int.reduceToNat] at ho26; rw [← Ny120.out] at ho26)); have n0_ := Aside0.mk (Kd.R_lower ho26 (below_size z5_3)); have n1_ := Aside0.mk (below_step z5_3 hb); clear HB; have HO122 := n0_; have HB := n1_; clear n0_ n1_; clear hb ho26; obtain ⟨Ao27, co27, eo27⟩ := Kd.R_slice HO122.out; subst eo27) | ((with_reducible refine gate_dst (N := 1) rfl ?_); (try (refine gate_guard (by rfl) ?_; dsimp only)); refine box_event ?hg (N := 1) ?hd (cs := #[.int .i64 0, .int .i64 0, .slice none 0 0, .slice none 0 0]) (t := 30) ?hr ?_; (case hd => rfl); (case hg => rfl); (case hr => exact z5_15); intro gb123 hg w28 hbox hb; have n0_ := Aside0.mk (Kd.R_below z5_6 hb); have n1_ := Aside0.mk (below_step z5_3 hb); have n2_ := Aside0.mk (hbox); have n3_ := Aside0.mk ((by rw [hg]; exact (below_size z5_3) : w.heap.size ≤ gb123)); have n4_ := Aside0.mk ((by rw [hg]; exact (below_size z5_3) : w.heap.size ≤ gb123)); clear HO122; clear HB; have HO122 := n0_; have HB := n1_; have BK123 := n2_; have GW123 := n3_; have GE123 := n4_; clear n0_ n1_ n2_ n3_ n4_; clear hb hbox hg; have hcz29_0 : w28.cell? ⟨gb123, 0, none⟩ = some (.int .i64 0) := (blk_cell BK123.out 0).trans rfl; have hcz29_1 : w28.cell? ⟨gb123, 1, none⟩ = some (.int .i64 0) := (blk_cell BK123.out 1).trans rfl; have hcz29_2 : w28.cell? ⟨gb123, 2, none⟩ = some (.slice none 0 0) := (blk_cell BK123.out 2).trans rfl; have hcz29_3 : w28.cell? ⟨gb123, 3, none⟩ = some (.slice none 0 0) := (blk_cell BK123.out 3).trans rfl; have hfz29_0 := blk_frozen BK123.out 0; have hfz29_1 := blk_frozen BK123.out 1; have hfz29_2 := blk_frozen BK123.out 2; have hfz29_3 := blk_frozen BK123.out 3) | ((with_reducible refine gate_dst (N := 8) rfl ?_); (try (refine gate_guard (by rfl) ?_; dsimp only)); refine Kd.R_lit (Kd.int .i64) _ 3 ?hg (N := 8) ?hd (xs := ([1] : List Int)) (inner := [.int .i64 1]) (ok := fun _ => True) (okp := fun _ => True) ?hr ?hp (fun _ hk => hk) trivial (Below.refl _ _) (Nat.le_refl _) (by simp) ?_; (case hd => rfl); (case hg => rfl); (case hr => exact z5_15); (case hp => exact z5_23); intro v125 w30 ho31 hb hg_ hnew_; clear hg_ hnew_; (first | rw [← Ny124.out] at ho31 | (simp only [Int.reduceToNat] at ho31; rw [← Ny124.out] at ho31)); have n0_ := Aside0.mk (Kd.R_below (by (with_reducible repeat (first | apply Kd.R_alloc | apply Kd.R_drewN | apply Kd.R_drew)); exact (Kd.R_mono (Kd.R_far (p := ⟨gb123, 3, none⟩) (Kd.R_far (p := ⟨gb123, 2, none⟩) (Kd.R_far (p := ⟨gb123, 1, none⟩) (Kd.R_far (p := ⟨gb123, 0, none⟩) (Kd.R_types HO122.out BK123.out (by decide)) (fun _ hk => hk.2) (.int .i64 1)) (fun _ hk => hk.2) (.int .i64 1)) (fun _ hk => hk.2) (.slice none 0 0)) (fun _ hk => hk.2) (.slice Ao27 y120.length co27)) (fun _ h_ => h_.1))) hb); have n1_ := Aside0.mk (Kd.R_lower ho31 (below_size z5_0)); have n2_ := Aside0.mk (blk_below (g := gb123) (o := .cells #[.int .i64 1, .int .i64 1, .slice none 0 0, .slice Ao27 y120.length co27] 30 (0, 0)) z5_1 hb); have n3_ := Aside0.mk (below_step z5_0 hb); clear HO122; clear BK123; clear HB; have HO122 := n0_; have HO126 := n1_; have BK123 := n2_; have HB := n3_; clear n0_ n1_ n2_ n3_; clear hb ho31; have hcz32_0 : w30.cell? ⟨gb123, 0, none⟩ = some (.int .i64 1) := (blk_cell BK123.out 0).trans rfl; have hcz32_1 : w30.cell? ⟨gb123, 1, none⟩ = some (.int .i64 1) := (blk_cell BK123.out 1).trans rfl; have hcz32_2 : w30.cell? ⟨gb123, 2, none⟩ = some (.slice none 0 0) := (blk_cell BK123.out 2).trans rfl; have hcz32_3 : w30.cell? ⟨gb123, 3, none⟩ = some (.slice Ao27 y120.length co27) := (blk_cell BK123.out 3).trans rfl; have hfz32_0 := blk_frozen BK123.out 0; have hfz32_1 := blk_frozen BK123.out 1; have hfz32_2 := blk_frozen BK123.out 2; have hfz32_3 := blk_frozen BK123.out 3; obtain ⟨Ao33, co33, eo33⟩ := Kd.R_slice HO126.out; subst eo33) | ((with_reducible refine gate_dst (N := 2) rfl ?_); (try (refine gate_guard (by rfl) ?_; dsimp only)); refine box_event ?hg (N := 2) ?hd (cs := #[.int .i64 0, .int .i64 0, .slice none 0 0, .slice none 0 0]) (t := 30) ?hr ?_; (case hd => rfl); (case hg => rfl); (case hr => exact z5_15); intro gb127 hg w34 hbox hb; have n0_ := Aside0.mk (Kd.R_below z5_6 hb); have n1_ := Aside0.mk (Kd.R_below z5_14 hb); have n2_ := Aside0.mk (blk_below (g := gb123) (o := .cells #[.int .i64 1, .int .i64 1, .slice none 0 0, .slice Ao27 y120.length co27] 30 (0, 0)) z5_4 hb); have n3_ := Aside0.mk (below_step z5_0 hb); have n4_ := Aside0.mk (hbox); have n5_ := Aside0.mk ((by rw [hg]; exact (below_size z5_0) : w.heap.size ≤ gb127)); have n6_ := Aside0.mk ((by rw [hg]; exact (below_size z5_0) : w.heap.size ≤ gb127)); have n7_ := Aside0.mk ((by rw [hg]; exact Nat.ne_of_lt (blk_lt (g := gb123) (o := .cells #[.int .i64 1, .int .i64 1, .slice none 0 0, .slice Ao27 y120.length co27] 30 (0, 0)) z5_4) : gb123 ≠ gb127)); have n8_ := Aside0.mk ((by rw [hg]; exact Nat.ne_of_gt (blk_lt (g := gb123) (o := .cells #[.int .i64 1, .int .i64 1, .slice none 0 0, .slice Ao27 y120.length co27] 30 (0, 0)) z5_4) : gb127 ≠ gb123)); clear HO122; clear HO126; clear BK123; clear HB; have HO122 := n0_; have HO126 := n1_; have BK123 := n2_; have HB := n3_; have BK127 := n4_; have GW127 := n5_; have GE127 := n6_; have NB123_127 := n7_; have NB127_123 := n8_; clear n0_ n1_ n2_ n3_ n4_ n5_ n6_ n7_ n8_; clear hb hbox hg; have hnb35 := NB127_123.out; have hnc35 := NB123_127.out; have hcz36_0 : w34.cell? ⟨gb127, 0, none⟩ = some (.int .i64 0) := (blk_cell BK127.out 0).trans rfl; have hcz36_1 : w34.cell? ⟨gb127, 1, none⟩ = some (.int .i64 0) := (blk_cell BK127.out 1).trans rfl; have hcz36_2 : w34.cell? ⟨gb127, 2, none⟩ = some (.slice none 0 0) := (blk_cell BK127.out 2).trans rfl; have hcz36_3 : w34.cell? ⟨gb127, 3, none⟩ = some (.slice none 0 0) := (blk_cell BK127.out 3).trans rfl; have hfz36_0 := blk_frozen BK127.out 0; have hfz36_1 := blk_frozen BK127.out 1; have hfz36_2 := blk_frozen BK127.out 2; have hfz36_3 := blk_frozen BK127.out 3; have hcz37_0 : w34.cell? ⟨gb123, 0, none⟩ = some (.int .i64 1) := (blk_cell BK123.out 0).trans rfl; have hcz37_1 : w34.cell? ⟨gb123, 1, none⟩ = some (.int .i64 1) := (blk_cell BK123.out 1).trans rfl; have hcz37_2 : w34.cell? ⟨gb123, 2, none⟩ = some (.slice none 0 0) := (blk_cell BK123.out 2).trans rfl; have hcz37_3 : w34.cell? ⟨gb123, 3, none⟩ = some (.slice Ao27 y120.length co27) := (blk_cell BK123.out 3).trans rfl; have hfz37_0 := blk_frozen BK123.out 0; have hfz37_1 := blk_frozen BK123.out 1; have hfz37_2 := blk_frozen BK123.out 2; have hfz37_3 := blk_frozen BK123.out 3) | ((with_reducible refine gate_callee (f := 21) rfl ?_); refine goesL_ (some 14) rfl rfl Try.func21 (by kernel_rfl) rfl #[.agg #[.int .i64 1, .int .i64 1, .slice none 0 0, .slice Ao27 y120.length co27], .agg #[.int .i64 2, .int .i64 1, .slice Ao33 y124.length co33, .slice Ao27 y120.length co27]] rfl z5_22 ?_; (refine (event_Ahead.calls 1 1 _ _ ([] : List Int) _ _ y120 2 1 _ _ y124 _ _ y120 true _ ?side1 ?side2 ?side3 ?side4 ?side5 ?side6 ?side7 ?side8 A1.out).mono ?_); (case side1 => exact Kd.C_nil _ _); (case side2 => exact Nat.le_refl _); (case side3 => refine (Kd.R_reads' (e := 48) (base := w.heap.size) (ok := fun k_ => True) (n := y120.length) (c := co27) ?_).2.2; exact z5_10); (case side4 => exact z5_21); (case side5 => refine (Kd.R_reads' (e := 3) (base := w.heap.size) (ok := fun k_ => True) (n := y124.length) (c := co33) ?_).2.2; exact z5_17); (case side6 => exact z5_25); (case side7 => refine (Kd.R_reads' (e := 48) (base := w.heap.size) (ok := fun k_ => True) (n := y120.length) (c := co27) ?_).2.2; exact z5_10); (case side8 => exact z5_21); rintro e w38 ⟨rfl, hb⟩; refine ⟨_, rfl, ?_⟩; have n0_ := Aside0.mk (Kd.R_below z5_10 hb); have n1_ := Aside0.mk (Kd.R_below z5_17 hb); have n2_ := Aside0.mk (blk_below (g := gb123) (o := .cells #[.int .i64 1, .int .i64 1, .slice none 0 0, .slice Ao27 y120.length co27] 30 (0, 0)) z5_5 hb); have n3_ := Aside0.mk (blk_below (g := gb127) (o := .cells #[.int .i64 2, .int .i64 1, .slice Ao33 y124.length co33, .slice Ao27 y120.length co27] 30 (0, 0)) (by (with_reducible repeat (first | refine blk_drewN ?_ _ | refine blk_drew ?_ | refine blk_alloc ?_ _)); refine blk_put (cs := #[.int .i64 2, .int .i64 1, .slice Ao33 y124.length co33, .slice none 0 0]) ?_ 3 _ rfl; (with_reducible repeat (first | refine blk_drewN ?_ _ | refine blk_drew ?_ | refine blk_alloc ?_ _)); refine blk_put (cs := #[.int .i64 2, .int .i64 1, .slice none 0 0, .slice none 0 0]) ?_ 2 _ rfl; (with_reducible repeat (first | refine blk_drewN ?_ _ | refine blk_drew ?_ | refine blk_alloc ?_ _)); refine blk_put (cs := #[.int .i64 2, .int .i64 0, .slice none 0 0, .slice none 0 0]) ?_ 1 _ rfl; (with_reducible repeat (first | refine blk_drewN ?_ _ | refine blk_drew ?_ | refine blk_alloc ?_ _)); refine blk_put (cs := #[.int .i64 0, .int .i64 0, .slice none 0 0, .slice none 0 0]) ?_ 0 _ rfl; (with_reducible repeat (first | refine blk_drewN ?_ _ | refine blk_drew ?_ | refine blk_alloc ?_ _)); exact BK127.out) hb); have n4_ := Aside0.mk (below_step z5_2 hb); clear HO122; clear HO126; clear BK123; clear BK127; clear HB; have HO122 := n0_; have HO126 := n1_; have BK123 := n2_; have BK127 := n3_; have HB := n4_; clear n0_ n1_ n2_ n3_ n4_; (try clear hb); (try clear hb2); (try clear hk); (try clear hi); have hcz39_0 : w38.cell? ⟨gb127, 0, none⟩ = some (.int .i64 2) := (blk_cell BK127.out 0).trans rfl; have hcz39_1 : w38.cell? ⟨gb127, 1, none⟩ = some (.int .i64 1) := (blk_cell BK127.out 1).trans rfl; have hcz39_2 : w38.cell? ⟨gb127, 2, none⟩ = some (.slice Ao33 y124.length co33) := (blk_cell BK127.out 2).trans rfl; have hcz39_3 : w38.cell? ⟨gb127, 3, none⟩ = some (.slice Ao27 y120.length co27) := (blk_cell BK127.out 3).trans rfl; have hfz39_0 := blk_frozen BK127.out 0; have hfz39_1 := blk_frozen BK127.out 1; have hfz39_2 := blk_frozen BK127.out 2; have hfz39_3 := blk_frozen BK127.out 3; have hcz40_0 : w38.cell? ⟨gb123, 0, none⟩ = some (.int .i64 1) := (blk_cell BK123.out 0).trans rfl; have hcz40_1 : w38.cell? ⟨gb123, 1, none⟩ = some (.int .i64 1) := (blk_cell BK123.out 1).trans rfl; have hcz40_2 : w38.cell? ⟨gb123, 2, none⟩ = some (.slice none 0 0) := (blk_cell BK123.out 2).trans rfl; have hcz40_3 : w38.cell? ⟨gb123, 3, none⟩ = some (.slice Ao27 y120.length co27) := (blk_cell BK123.out 3).trans rfl; have hfz40_0 := blk_frozen BK123.out 0; have hfz40_1 := blk_frozen BK123.out 1; have hfz40_2 := blk_frozen BK123.out 2; have hfz40_3 := blk_frozen BK123.out 3) | (go_at_call 21; (refine (event_Ahead.calls 2 1 _ _ y124 _ _ y120 1 1 _ _ ([] : List Int) _ _ y120 false _ ?side1 ?side2 ?side3 ?side4 ?side5 ?side6 ?side7 ?side8 A3.out).mono ?_); (case side1 => exact z5_16); (case side2 => exact z5_25); (case side3 => exact z5_9); (case side4 => exact z5_21); (case side5 => exact Kd.C_nil _ _); (case side6 => exact Nat.le_refl _); (case side7 => exact z5_9); (case side8 => exact z5_21); rintro e w41 ⟨rfl, hb⟩; have n0_ := Aside0.mk (Kd.R_below z5_6 hb); have n1_ := Aside0.mk (Kd.R_below z5_14 hb); have n2_ := Aside0.mk (blk_below (g := gb123) (o := .cells #[.int .i64 1, .int .i64 1, .slice none 0 0, .slice Ao27 y120.length co27] 30 (0, 0)) z5_4 hb); have n3_ := Aside0.mk (blk_below (g := gb127) (o := .cells #[.int .i64 2, .int .i64 1, .slice Ao33 y124.length co33, .slice Ao27 y120.length co27] 30 (0, 0)) z5_8 hb); have n4_ := Aside0.mk (below_step z5_2 hb); clear HO122; clear HO126; clear BK123; clear BK127; clear HB; have HO122 := n0_; have HO126 := n1_; have BK123 := n2_; have BK127 := n3_; have HB := n4_; clear n0_ n1_ n2_ n3_ n4_; (try clear hb); (try clear hb2); (try clear hk); (try clear hi); have hcz42_0 : w41.cell? ⟨gb127, 0, none⟩ = some (.int .i64 2) := (blk_cell BK127.out 0).trans rfl; have hcz42_1 : w41.cell? ⟨gb127, 1, none⟩ = some (.int .i64 1) := (blk_cell BK127.out 1).trans rfl; have hcz42_2 : w41.cell? ⟨gb127, 2, none⟩ = some (.slice Ao33 y124.length co33) := (blk_cell BK127.out 2).trans rfl; have hcz42_3 : w41.cell? ⟨gb127, 3, none⟩ = some (.slice Ao27 y120.length co27) := (blk_cell BK127.out 3).trans rfl; have hfz42_0 := blk_frozen BK127.out 0; have hfz42_1 := blk_frozen BK127.out 1; have hfz42_2 := blk_frozen BK127.out 2; have hfz42_3 := blk_frozen BK127.out 3; have hcz43_0 : w41.cell? ⟨gb123, 0, none⟩ = some (.int .i64 1) := (blk_cell BK123.out 0).trans rfl; have hcz43_1 : w41.cell? ⟨gb123, 1, none⟩ = some (.int .i64 1) := (blk_cell BK123.out 1).trans rfl; have hcz43_2 : w41.cell? ⟨gb123, 2, none⟩ = some (.slice none 0 0) := (blk_cell BK123.out 2).trans rfl; have hcz43_3 : w41.cell? ⟨gb123, 3, none⟩ = some (.slice Ao27 y120.length co27) := (blk_cell BK123.out 3).trans rfl; have hfz43_0 := blk_frozen BK123.out 0; have hfz43_1 := blk_frozen BK123.out 1; have hfz43_2 := blk_frozen BK123.out 2; have hfz43_3 := blk_frozen BK123.out 3) | ((with_reducible refine gate_dst (N := 24) rfl ?_); (try (refine gate_guard (by rfl) ?_; dsimp only)); refine Kd.N_lit k30 _ 30 ?hg (N' := 24) ?hd (xs := ([(⟨(⟨2, 1⟩ : S25), y124, y120⟩ : S30), (⟨(⟨1, 1⟩ : S25), ([] : List Int), y120⟩ : S30)] : List (S30))) (inner := [.int .i64 2, .int .i64 1, .slice Ao33 y124.length co33, .slice Ao27 y120.length co27, .int .i64 1, .int .i64 1, .slice none 0 0, .slice Ao27 y120.length co27]) (ok := (fun k_ => k_ ≠ gb123 ∧ k_ ≠ gb127)) (okp := (fun k_ => k_ ≠ gb123 ∧ k_ ≠ gb127)) ?hr ?hp (fun _ hk => hk) ((show ∀ k_, w41.heap.size ≤ k_ → (fun k_ => k_ ≠ gb123 ∧ k_ ≠ gb127) k_ from fun k_ hk => ⟨Kd.freshB (g := gb123) (o := .cells #[.int .i64 1, .int .i64 1, .slice none 0 0, .slice Ao27 y120.length co27] 30 (0, 0)) z5_4 k_ hk, Kd.freshB (g := gb127) (o := .cells #[.int .i64 2, .int .i64 1, .slice Ao33 y124.length co33, .slice Ao27 y120.length co27] 30 (0, 0)) z5_8 k_ hk⟩) _ (Nat.le_refl _)) (Below.refl _ _) (Nat.le_refl _) (by simp) ?_; (case hd => rfl); (case hg => rfl); (case hr => exact z5_15); (case hp => exact (Reps.c4 (show Kd.FK k30 _ _ (⟨(⟨2, 1⟩ : S25), y124, y120⟩ : S30) [.int .i64 2, .int .i64 1, .slice Ao33 y124.length co33, .slice Ao27 y120.length co27] from (k30_mkF _ _ (⟨(⟨2, 1⟩ : S25), y124, y120⟩ : S30) (Kd.R_reads' (Kd.R_mono (ok' := (fun k_ => k_ ≠ gb123 ∧ k_ ≠ gb127)) (Kd.R_types (Kd.R_types (HO126.out) BK123.out (by decide)) BK127.out (by decide)) (fun k_ hk => ⟨hk.1.2, hk.2⟩))).2.1 (Kd.R_F (Kd.R_mono (ok' := (fun k_ => k_ ≠ gb123 ∧ k_ ≠ gb127)) (Kd.R_types (Kd.R_types (HO126.out) BK123.out (by decide)) BK127.out (by decide)) (fun k_ hk => ⟨hk.1.2, hk.2⟩))) (Kd.R_reads' (Kd.R_mono (ok' := (fun k_ => k_ ≠ gb123 ∧ k_ ≠ gb127)) (Kd.R_types (Kd.R_types (HO122.out) BK123.out (by decide)) BK127.out (by decide)) (fun k_ hk => ⟨hk.1.2, hk.2⟩))).2.1 (Kd.R_F (Kd.R_mono (ok' := (fun k_ => k_ ≠ gb123 ∧ k_ ≠ gb127)) (Kd.R_types (Kd.R_types (HO122.out) BK123.out (by decide)) BK127.out (by decide)) (fun k_ hk => ⟨hk.1.2, hk.2⟩))))) (Reps.c4 (show Kd.FK k30 _ _ (⟨(⟨1, 1⟩ : S25), ([] : List Int), y120⟩ : S30) [.int .i64 1, .int .i64 1, .slice none 0 0, .slice Ao27 y120.length co27] from (k30_mkF _ _ (⟨(⟨1, 1⟩ : S25), ([] : List Int), y120⟩ : S30) (Nat.le_refl _) (Kd.F_nil _ _ _) (Kd.R_reads' (Kd.R_mono (ok' := (fun k_ => k_ ≠ gb123 ∧ k_ ≠ gb127)) (Kd.R_types (Kd.R_types (HO122.out) BK123.out (by decide)) BK127.out (by decide)) (fun k_ hk => ⟨hk.1.2, hk.2⟩))).2.1 (Kd.R_F (Kd.R_mono (ok' := (fun k_ => k_ ≠ gb123 ∧ k_ ≠ gb127)) (Kd.R_types (Kd.R_types (HO122.out) BK123.out (by decide)) BK127.out (by decide)) (fun k_ hk => ⟨hk.1.2, hk.2⟩))))) (Reps.none _ _)))); intro v131 w44 ho45 hb hg_ hnew_; clear hg_ hnew_; (first | rw [← Ny130.out] at ho45 | (simp only [Int.reduceToNat] at ho45; rw [← Ny130.out] at ho45)); have n0_ := Aside0.mk (Kd.N_lower ho45 (below_size z5_2)); have n1_ := Aside0.mk (blk_below (g := gb123) (o := .cells #[.int .i64 1, .int .i64 1, .slice none 0 0, .slice Ao27 y120.length co27] 30 (0, 0)) z5_4 hb); have n2_ := Aside0.mk (blk_below (g := gb127) (o := .cells #[.int .i64 2, .int .i64 1, .slice Ao33 y124.length co33, .slice Ao27 y120.length co27] 30 (0, 0)) z5_8 hb); have n3_ := Aside0.mk (below_step z5_2 hb); have nk0_ := Aside0.mk (Kd.R_below z5_14 hb); have nk1_ := Aside0.mk (Kd.R_below z5_6 hb); clear BK123; clear BK127; clear HB; clear HO122; clear HO126; have HO132 := n0_; have HO126 := nk0_; have HO122 := nk1_; clear nk0_ nk1_; have BK123 := n1_; have BK127 := n2_; have HB := n3_; clear n0_ n1_ n2_ n3_; clear hb ho45; obtain ⟨Ao46, co46, eo46⟩ := Kd.N_slice HO132.out; subst eo46) | (go_at_call 48; (with_reducible refine (event_Closed.calls k _ _ y130 true _ ?side1 ?side2 A22.out).mono ?_); (case side1 => exact z5_27); (case side2 => exact (Kd.N_reads' HO132.out).2.1); rintro e w47 ⟨rfl, hb⟩; have n0_ := Aside0.mk (Kd.N_below z5_26 hb); have n1_ := Aside0.mk (blk_below (g := gb123) (o := .cells #[.int .i64 1, .int .i64 1, .slice none 0 0, .slice Ao27 y120.length co27] 30 (0, 0)) z5_4 hb); have n2_ := Aside0.mk (blk_below (g := gb127) (o := .cells #[.int .i64 2, .int .i64 1, .slice Ao33 y124.length co33, .slice Ao27 y120.length co27] 30 (0, 0)) z5_8 hb); have n3_ := Aside0.mk (below_step z5_2 hb); have nk0_ := Aside0.mk (Kd.R_below z5_6 hb); have nk1_ := Aside0.mk (Kd.R_below z5_14 hb); clear HO122; clear HO126; clear HO132; clear BK123; clear BK127; clear HB; have HO132 := n0_; have HO122 := nk0_; have HO126 := nk1_; clear nk0_ nk1_; have BK123 := n1_; have BK127 := n2_; have HB := n3_; clear n0_ n1_ n2_ n3_; (try clear hb); (try clear hb2); (try clear hk); (try clear hi); have hcz48_0 : w47.cell? ⟨gb127, 0, none⟩ = some (.int .i64 2) := (blk_cell BK127.out 0).trans rfl; have hcz48_1 : w47.cell? ⟨gb127, 1, none⟩ = some (.int .i64 1) := (blk_cell BK127.out 1).trans rfl; have hcz48_2 : w47.cell? ⟨gb127, 2, none⟩ = some (.slice Ao33 y124.length co33) := (blk_cell BK127.out 2).trans rfl; have hcz48_3 : w47.cell? ⟨gb127, 3, none⟩ = some (.slice Ao27 y120.length co27) := (blk_cell BK127.out 3).trans rfl; have hfz48_0 := blk_frozen BK127.out 0; have hfz48_1 := blk_frozen BK127.out 1; have hfz48_2 := blk_frozen BK127.out 2; have hfz48_3 := blk_frozen BK127.out 3) | (go_at_call 27; (with_reducible refine (event_Check.calls k 2 1 _ _ y124 _ _ y120 t134 _ ?side1 ?side2 ?side3 ?side4 A24.out).mono ?_); (case side1 => exact z5_16); (case side2 => exact z5_25); (case side3 => exact z5_9); (case side4 => exact z5_21); rintro e w49 ⟨rfl, hb⟩; have n0_ := Aside0.mk (Kd.N_below z5_26 hb); have n1_ := Aside0.mk (blk_below (g := gb123) (o := .cells #[.int .i64 1, .int .i64 1, .slice none 0 0, .slice Ao27 y120.length co27] 30 (0, 0)) z5_4 hb); have n2_ := Aside0.mk (blk_below (g := gb127) (o := .cells #[.int .i64 2, .int .i64 1, .slice Ao33 y124.length co33, .slice Ao27 y120.length co27] 30 (0, 0)) z5_8 hb); have n3_ := Aside0.mk (below_step z5_2 hb); clear HO132; clear BK123; clear BK127; clear HB; have HO132 := n0_; have BK123 := n1_; have BK127 := n2_; have HB := n3_; clear n0_ n1_ n2_ n3_; (try clear hb); (try clear hb2); (try clear hk); (try clear hi)))
    go_ret
    exact ⟨by first | rfl | (simp [errW_none, errW_some] <;> rfl) | (simp [*, errW_none, errW_some] <;> rfl), by repeat (first | (with_reducible first | exact HB.out | apply below_alloc | apply pw_below_drewN | apply below_drew1 | refine below_set ?_ GE123.out | refine below_set ?_ GE127.out) | exact HB.out)⟩
   ·replace c23 := Bool.eq_false_iff.mpr c23
    subst c23
    have H1 : (some false) = some r := by rw [if_neg (show ¬ (false = true) by decide)] at H; exact H
    clear H
    have H := H1
    clear H1
    obtain rfl := Option.some.inj H
    go_enter Try.func12, Try.ntmps12
    go_wp2_with (first | ((with_reducible refine gate_dst (N := 5) rfl ?_); (try (refine gate_guard (by rfl) ?_; dsimp only)); refine Kd.R_lit k48 _ 48 ?hg (N := 5) ?hd (xs := ([(⟨1, 0, (⟨#[107]⟩ : ByteArray), 0, 0, (⟨#[]⟩ : ByteArray)⟩ : S48)] : List (S48))) (inner := [.int .i64 1, .int .i64 0, .string (⟨#[107]⟩ : ByteArray), .int .i64 0, .int .i64 0, .string (⟨#[]⟩ : ByteArray)]) (ok := fun _ => True) (okp := fun _ => True) ?hr ?hp (fun _ hk => hk) trivial (Below.refl _ _) (Nat.le_refl _) (by simp) ?_; (case hd => rfl); (case hg => rfl); (case hr => exact z5_15); (case hp => exact z5_7); intro v121 w50 ho51 hb hg_ hnew_; clear hg_ hnew_; (first | rw [← Ny120.out] at ho51 | (simp only [Int.reduceToNat] at ho51; rw [← Ny120.out] at ho51)); have n0_ := Aside0.mk (Kd.R_lower ho51 (below_size z5_3)); have n1_ := Aside0.mk (below_step z5_3 hb); clear HB; have HO122 := n0_; have HB := n1_; clear n0_ n1_; clear hb ho51; obtain ⟨Ao52, co52, eo52⟩ := Kd.R_slice HO122.out; subst eo52) | ((with_reducible refine gate_dst (N := 1) rfl ?_); (try (refine gate_guard (by rfl) ?_; dsimp only)); refine box_event ?hg (N := 1) ?hd (cs := #[.int .i64 0, .int .i64 0, .slice none 0 0, .slice none 0 0]) (t := 30) ?hr ?_; (case hd => rfl); (case hg => rfl); (case hr => exact z5_15); intro gb123 hg w53 hbox hb; have n0_ := Aside0.mk (Kd.R_below z5_6 hb); have n1_ := Aside0.mk (below_step z5_3 hb); have n2_ := Aside0.mk (hbox); have n3_ := Aside0.mk ((by rw [hg]; exact (below_size z5_3) : w.heap.size ≤ gb123)); have n4_ := Aside0.mk ((by rw [hg]; exact (below_size z5_3) : w.heap.size ≤ gb123)); clear HO122; clear HB; have HO122 := n0_; have HB := n1_; have BK123 := n2_; have GW123 := n3_; have GE123 := n4_; clear n0_ n1_ n2_ n3_ n4_; clear hb hbox hg; have hcz54_0 : w53.cell? ⟨gb123, 0, none⟩ = some (.int .i64 0) := (blk_cell BK123.out 0).trans rfl; have hcz54_1 : w53.cell? ⟨gb123, 1, none⟩ = some (.int .i64 0) := (blk_cell BK123.out 1).trans rfl; have hcz54_2 : w53.cell? ⟨gb123, 2, none⟩ = some (.slice none 0 0) := (blk_cell BK123.out 2).trans rfl; have hcz54_3 : w53.cell? ⟨gb123, 3, none⟩ = some (.slice none 0 0) := (blk_cell BK123.out 3).trans rfl; have hfz54_0 := blk_frozen BK123.out 0; have hfz54_1 := blk_frozen BK123.out 1; have hfz54_2 := blk_frozen BK123.out 2; have hfz54_3 := blk_frozen BK123.out 3) | ((with_reducible refine gate_dst (N := 8) rfl ?_); (try (refine gate_guard (by rfl) ?_; dsimp only)); refine Kd.R_lit (Kd.int .i64) _ 3 ?hg (N := 8) ?hd (xs := ([1] : List Int)) (inner := [.int .i64 1]) (ok := fun _ => True) (okp := fun _ => True) ?hr ?hp (fun _ hk => hk) trivial (Below.refl _ _) (Nat.le_refl _) (by simp) ?_; (case hd => rfl); (case hg => rfl); (case hr => exact z5_15); (case hp => exact z5_23); intro v125 w55 ho56 hb hg_ hnew_; clear hg_ hnew_; (first | rw [← Ny124.out] at ho56 | (simp only [Int.reduceToNat] at ho56; rw [← Ny124.out] at ho56)); have n0_ := Aside0.mk (Kd.R_below (by (with_reducible repeat (first | apply Kd.R_alloc | apply Kd.R_drewN | apply Kd.R_drew)); exact (Kd.R_mono (Kd.R_far (p := ⟨gb123, 3, none⟩) (Kd.R_far (p := ⟨gb123, 2, none⟩) (Kd.R_far (p := ⟨gb123, 1, none⟩) (Kd.R_far (p := ⟨gb123, 0, none⟩) (Kd.R_types HO122.out BK123.out (by decide)) (fun _ hk => hk.2) (.int .i64 1)) (fun _ hk => hk.2) (.int .i64 1)) (fun _ hk => hk.2) (.slice none 0 0)) (fun _ hk => hk.2) (.slice Ao52 y120.length co52)) (fun _ h_ => h_.1))) hb); have n1_ := Aside0.mk (Kd.R_lower ho56 (below_size z5_0)); have n2_ := Aside0.mk (blk_below (g := gb123) (o := .cells #[.int .i64 1, .int .i64 1, .slice none 0 0, .slice Ao52 y120.length co52] 30 (0, 0)) z5_1 hb); have n3_ := Aside0.mk (below_step z5_0 hb); clear HO122; clear BK123; clear HB; have HO122 := n0_; have HO126 := n1_; have BK123 := n2_; have HB := n3_; clear n0_ n1_ n2_ n3_; clear hb ho56; have hcz57_0 : w55.cell? ⟨gb123, 0, none⟩ = some (.int .i64 1) := (blk_cell BK123.out 0).trans rfl; have hcz57_1 : w55.cell? ⟨gb123, 1, none⟩ = some (.int .i64 1) := (blk_cell BK123.out 1).trans rfl; have hcz57_2 : w55.cell? ⟨gb123, 2, none⟩ = some (.slice none 0 0) := (blk_cell BK123.out 2).trans rfl; have hcz57_3 : w55.cell? ⟨gb123, 3, none⟩ = some (.slice Ao52 y120.length co52) := (blk_cell BK123.out 3).trans rfl; have hfz57_0 := blk_frozen BK123.out 0; have hfz57_1 := blk_frozen BK123.out 1; have hfz57_2 := blk_frozen BK123.out 2; have hfz57_3 := blk_frozen BK123.out 3; obtain ⟨Ao58, co58, eo58⟩ := Kd.R_slice HO126.out; subst eo58) | ((with_reducible refine gate_dst (N := 2) rfl ?_); (try (refine gate_guard (by rfl) ?_; dsimp only)); refine box_event ?hg (N := 2) ?hd (cs := #[.int .i64 0, .int .i64 0, .slice none 0 0, .slice none 0 0]) (t := 30) ?hr ?_; (case hd => rfl); (case hg => rfl); (case hr => exact z5_15); intro gb127 hg w59 hbox hb; have n0_ := Aside0.mk (Kd.R_below z5_6 hb); have n1_ := Aside0.mk (Kd.R_below z5_14 hb); have n2_ := Aside0.mk (blk_below (g := gb123) (o := .cells #[.int .i64 1, .int .i64 1, .slice none 0 0, .slice Ao52 y120.length co52] 30 (0, 0)) z5_4 hb); have n3_ := Aside0.mk (below_step z5_0 hb); have n4_ := Aside0.mk (hbox); have n5_ := Aside0.mk ((by rw [hg]; exact (below_size z5_0) : w.heap.size ≤ gb127)); have n6_ := Aside0.mk ((by rw [hg]; exact (below_size z5_0) : w.heap.size ≤ gb127)); have n7_ := Aside0.mk ((by rw [hg]; exact Nat.ne_of_lt (blk_lt (g := gb123) (o := .cells #[.int .i64 1, .int .i64 1, .slice none 0 0, .slice Ao52 y120.length co52] 30 (0, 0)) z5_4) : gb123 ≠ gb127)); have n8_ := Aside0.mk ((by rw [hg]; exact Nat.ne_of_gt (blk_lt (g := gb123) (o := .cells #[.int .i64 1, .int .i64 1, .slice none 0 0, .slice Ao52 y120.length co52] 30 (0, 0)) z5_4) : gb127 ≠ gb123)); clear HO122; clear HO126; clear BK123; clear HB; have HO122 := n0_; have HO126 := n1_; have BK123 := n2_; have HB := n3_; have BK127 := n4_; have GW127 := n5_; have GE127 := n6_; have NB123_127 := n7_; have NB127_123 := n8_; clear n0_ n1_ n2_ n3_ n4_ n5_ n6_ n7_ n8_; clear hb hbox hg; have hnb60 := NB127_123.out; have hnc60 := NB123_127.out; have hcz61_0 : w59.cell? ⟨gb127, 0, none⟩ = some (.int .i64 0) := (blk_cell BK127.out 0).trans rfl; have hcz61_1 : w59.cell? ⟨gb127, 1, none⟩ = some (.int .i64 0) := (blk_cell BK127.out 1).trans rfl; have hcz61_2 : w59.cell? ⟨gb127, 2, none⟩ = some (.slice none 0 0) := (blk_cell BK127.out 2).trans rfl; have hcz61_3 : w59.cell? ⟨gb127, 3, none⟩ = some (.slice none 0 0) := (blk_cell BK127.out 3).trans rfl; have hfz61_0 := blk_frozen BK127.out 0; have hfz61_1 := blk_frozen BK127.out 1; have hfz61_2 := blk_frozen BK127.out 2; have hfz61_3 := blk_frozen BK127.out 3; have hcz62_0 : w59.cell? ⟨gb123, 0, none⟩ = some (.int .i64 1) := (blk_cell BK123.out 0).trans rfl; have hcz62_1 : w59.cell? ⟨gb123, 1, none⟩ = some (.int .i64 1) := (blk_cell BK123.out 1).trans rfl; have hcz62_2 : w59.cell? ⟨gb123, 2, none⟩ = some (.slice none 0 0) := (blk_cell BK123.out 2).trans rfl; have hcz62_3 : w59.cell? ⟨gb123, 3, none⟩ = some (.slice Ao52 y120.length co52) := (blk_cell BK123.out 3).trans rfl; have hfz62_0 := blk_frozen BK123.out 0; have hfz62_1 := blk_frozen BK123.out 1; have hfz62_2 := blk_frozen BK123.out 2; have hfz62_3 := blk_frozen BK123.out 3) | ((with_reducible refine gate_callee (f := 21) rfl ?_); refine goesL_ (some 14) rfl rfl Try.func21 (by kernel_rfl) rfl #[.agg #[.int .i64 1, .int .i64 1, .slice none 0 0, .slice Ao52 y120.length co52], .agg #[.int .i64 2, .int .i64 1, .slice Ao58 y124.length co58, .slice Ao52 y120.length co52]] rfl z5_22 ?_; (refine (event_Ahead.calls 1 1 _ _ ([] : List Int) _ _ y120 2 1 _ _ y124 _ _ y120 true _ ?side1 ?side2 ?side3 ?side4 ?side5 ?side6 ?side7 ?side8 A1.out).mono ?_); (case side1 => exact Kd.C_nil _ _); (case side2 => exact Nat.le_refl _); (case side3 => refine (Kd.R_reads' (e := 48) (base := w.heap.size) (ok := fun k_ => True) (n := y120.length) (c := co52) ?_).2.2; exact z5_11); (case side4 => exact z5_21); (case side5 => refine (Kd.R_reads' (e := 3) (base := w.heap.size) (ok := fun k_ => True) (n := y124.length) (c := co58) ?_).2.2; exact z5_18); (case side6 => exact z5_25); (case side7 => refine (Kd.R_reads' (e := 48) (base := w.heap.size) (ok := fun k_ => True) (n := y120.length) (c := co52) ?_).2.2; exact z5_11); (case side8 => exact z5_21); rintro e w63 ⟨rfl, hb⟩; refine ⟨_, rfl, ?_⟩; have n0_ := Aside0.mk (Kd.R_below z5_11 hb); have n1_ := Aside0.mk (Kd.R_below z5_18 hb); have n2_ := Aside0.mk (blk_below (g := gb123) (o := .cells #[.int .i64 1, .int .i64 1, .slice none 0 0, .slice Ao52 y120.length co52] 30 (0, 0)) z5_5 hb); have n3_ := Aside0.mk (blk_below (g := gb127) (o := .cells #[.int .i64 2, .int .i64 1, .slice Ao58 y124.length co58, .slice Ao52 y120.length co52] 30 (0, 0)) (by (with_reducible repeat (first | refine blk_drewN ?_ _ | refine blk_drew ?_ | refine blk_alloc ?_ _)); refine blk_put (cs := #[.int .i64 2, .int .i64 1, .slice Ao58 y124.length co58, .slice none 0 0]) ?_ 3 _ rfl; (with_reducible repeat (first | refine blk_drewN ?_ _ | refine blk_drew ?_ | refine blk_alloc ?_ _)); refine blk_put (cs := #[.int .i64 2, .int .i64 1, .slice none 0 0, .slice none 0 0]) ?_ 2 _ rfl; (with_reducible repeat (first | refine blk_drewN ?_ _ | refine blk_drew ?_ | refine blk_alloc ?_ _)); refine blk_put (cs := #[.int .i64 2, .int .i64 0, .slice none 0 0, .slice none 0 0]) ?_ 1 _ rfl; (with_reducible repeat (first | refine blk_drewN ?_ _ | refine blk_drew ?_ | refine blk_alloc ?_ _)); refine blk_put (cs := #[.int .i64 0, .int .i64 0, .slice none 0 0, .slice none 0 0]) ?_ 0 _ rfl; (with_reducible repeat (first | refine blk_drewN ?_ _ | refine blk_drew ?_ | refine blk_alloc ?_ _)); exact BK127.out) hb); have n4_ := Aside0.mk (below_step z5_2 hb); clear HO122; clear HO126; clear BK123; clear BK127; clear HB; have HO122 := n0_; have HO126 := n1_; have BK123 := n2_; have BK127 := n3_; have HB := n4_; clear n0_ n1_ n2_ n3_ n4_; (try clear hb); (try clear hb2); (try clear hk); (try clear hi); have hcz64_0 : w63.cell? ⟨gb127, 0, none⟩ = some (.int .i64 2) := (blk_cell BK127.out 0).trans rfl; have hcz64_1 : w63.cell? ⟨gb127, 1, none⟩ = some (.int .i64 1) := (blk_cell BK127.out 1).trans rfl; have hcz64_2 : w63.cell? ⟨gb127, 2, none⟩ = some (.slice Ao58 y124.length co58) := (blk_cell BK127.out 2).trans rfl; have hcz64_3 : w63.cell? ⟨gb127, 3, none⟩ = some (.slice Ao52 y120.length co52) := (blk_cell BK127.out 3).trans rfl; have hfz64_0 := blk_frozen BK127.out 0; have hfz64_1 := blk_frozen BK127.out 1; have hfz64_2 := blk_frozen BK127.out 2; have hfz64_3 := blk_frozen BK127.out 3; have hcz65_0 : w63.cell? ⟨gb123, 0, none⟩ = some (.int .i64 1) := (blk_cell BK123.out 0).trans rfl; have hcz65_1 : w63.cell? ⟨gb123, 1, none⟩ = some (.int .i64 1) := (blk_cell BK123.out 1).trans rfl; have hcz65_2 : w63.cell? ⟨gb123, 2, none⟩ = some (.slice none 0 0) := (blk_cell BK123.out 2).trans rfl; have hcz65_3 : w63.cell? ⟨gb123, 3, none⟩ = some (.slice Ao52 y120.length co52) := (blk_cell BK123.out 3).trans rfl; have hfz65_0 := blk_frozen BK123.out 0; have hfz65_1 := blk_frozen BK123.out 1; have hfz65_2 := blk_frozen BK123.out 2; have hfz65_3 := blk_frozen BK123.out 3) | (go_at_call 21; (refine (event_Ahead.calls 2 1 _ _ y124 _ _ y120 1 1 _ _ ([] : List Int) _ _ y120 false _ ?side1 ?side2 ?side3 ?side4 ?side5 ?side6 ?side7 ?side8 A3.out).mono ?_); (case side1 => exact z5_16); (case side2 => exact z5_25); (case side3 => exact z5_9); (case side4 => exact z5_21); (case side5 => exact Kd.C_nil _ _); (case side6 => exact Nat.le_refl _); (case side7 => exact z5_9); (case side8 => exact z5_21); rintro e w66 ⟨rfl, hb⟩; have n0_ := Aside0.mk (Kd.R_below z5_6 hb); have n1_ := Aside0.mk (Kd.R_below z5_14 hb); have n2_ := Aside0.mk (blk_below (g := gb123) (o := .cells #[.int .i64 1, .int .i64 1, .slice none 0 0, .slice Ao52 y120.length co52] 30 (0, 0)) z5_4 hb); have n3_ := Aside0.mk (blk_below (g := gb127) (o := .cells #[.int .i64 2, .int .i64 1, .slice Ao58 y124.length co58, .slice Ao52 y120.length co52] 30 (0, 0)) z5_8 hb); have n4_ := Aside0.mk (below_step z5_2 hb); clear HO122; clear HO126; clear BK123; clear BK127; clear HB; have HO122 := n0_; have HO126 := n1_; have BK123 := n2_; have BK127 := n3_; have HB := n4_; clear n0_ n1_ n2_ n3_ n4_; (try clear hb); (try clear hb2); (try clear hk); (try clear hi); have hcz67_0 : w66.cell? ⟨gb127, 0, none⟩ = some (.int .i64 2) := (blk_cell BK127.out 0).trans rfl; have hcz67_1 : w66.cell? ⟨gb127, 1, none⟩ = some (.int .i64 1) := (blk_cell BK127.out 1).trans rfl; have hcz67_2 : w66.cell? ⟨gb127, 2, none⟩ = some (.slice Ao58 y124.length co58) := (blk_cell BK127.out 2).trans rfl; have hcz67_3 : w66.cell? ⟨gb127, 3, none⟩ = some (.slice Ao52 y120.length co52) := (blk_cell BK127.out 3).trans rfl; have hfz67_0 := blk_frozen BK127.out 0; have hfz67_1 := blk_frozen BK127.out 1; have hfz67_2 := blk_frozen BK127.out 2; have hfz67_3 := blk_frozen BK127.out 3; have hcz68_0 : w66.cell? ⟨gb123, 0, none⟩ = some (.int .i64 1) := (blk_cell BK123.out 0).trans rfl; have hcz68_1 : w66.cell? ⟨gb123, 1, none⟩ = some (.int .i64 1) := (blk_cell BK123.out 1).trans rfl; have hcz68_2 : w66.cell? ⟨gb123, 2, none⟩ = some (.slice none 0 0) := (blk_cell BK123.out 2).trans rfl; have hcz68_3 : w66.cell? ⟨gb123, 3, none⟩ = some (.slice Ao52 y120.length co52) := (blk_cell BK123.out 3).trans rfl; have hfz68_0 := blk_frozen BK123.out 0; have hfz68_1 := blk_frozen BK123.out 1; have hfz68_2 := blk_frozen BK123.out 2; have hfz68_3 := blk_frozen BK123.out 3) | ((with_reducible refine gate_dst (N := 24) rfl ?_); (try (refine gate_guard (by rfl) ?_; dsimp only)); refine Kd.N_lit k30 _ 30 ?hg (N' := 24) ?hd (xs := ([(⟨(⟨2, 1⟩ : S25), y124, y120⟩ : S30), (⟨(⟨1, 1⟩ : S25), ([] : List Int), y120⟩ : S30)] : List (S30))) (inner := [.int .i64 2, .int .i64 1, .slice Ao58 y124.length co58, .slice Ao52 y120.length co52, .int .i64 1, .int .i64 1, .slice none 0 0, .slice Ao52 y120.length co52]) (ok := (fun k_ => k_ ≠ gb123 ∧ k_ ≠ gb127)) (okp := (fun k_ => k_ ≠ gb123 ∧ k_ ≠ gb127)) ?hr ?hp (fun _ hk => hk) ((show ∀ k_, w66.heap.size ≤ k_ → (fun k_ => k_ ≠ gb123 ∧ k_ ≠ gb127) k_ from fun k_ hk => ⟨Kd.freshB (g := gb123) (o := .cells #[.int .i64 1, .int .i64 1, .slice none 0 0, .slice Ao52 y120.length co52] 30 (0, 0)) z5_4 k_ hk, Kd.freshB (g := gb127) (o := .cells #[.int .i64 2, .int .i64 1, .slice Ao58 y124.length co58, .slice Ao52 y120.length co52] 30 (0, 0)) z5_8 k_ hk⟩) _ (Nat.le_refl _)) (Below.refl _ _) (Nat.le_refl _) (by simp) ?_; (case hd => rfl); (case hg => rfl); (case hr => exact z5_15); (case hp => exact (Reps.c4 (show Kd.FK k30 _ _ (⟨(⟨2, 1⟩ : S25), y124, y120⟩ : S30) [.int .i64 2, .int .i64 1, .slice Ao58 y124.length co58, .slice Ao52 y120.length co52] from (k30_mkF _ _ (⟨(⟨2, 1⟩ : S25), y124, y120⟩ : S30) (Kd.R_reads' (Kd.R_mono (ok' := (fun k_ => k_ ≠ gb123 ∧ k_ ≠ gb127)) (Kd.R_types (Kd.R_types (HO126.out) BK123.out (by decide)) BK127.out (by decide)) (fun k_ hk => ⟨hk.1.2, hk.2⟩))).2.1 (Kd.R_F (Kd.R_mono (ok' := (fun k_ => k_ ≠ gb123 ∧ k_ ≠ gb127)) (Kd.R_types (Kd.R_types (HO126.out) BK123.out (by decide)) BK127.out (by decide)) (fun k_ hk => ⟨hk.1.2, hk.2⟩))) (Kd.R_reads' (Kd.R_mono (ok' := (fun k_ => k_ ≠ gb123 ∧ k_ ≠ gb127)) (Kd.R_types (Kd.R_types (HO122.out) BK123.out (by decide)) BK127.out (by decide)) (fun k_ hk => ⟨hk.1.2, hk.2⟩))).2.1 (Kd.R_F (Kd.R_mono (ok' := (fun k_ => k_ ≠ gb123 ∧ k_ ≠ gb127)) (Kd.R_types (Kd.R_types (HO122.out) BK123.out (by decide)) BK127.out (by decide)) (fun k_ hk => ⟨hk.1.2, hk.2⟩))))) (Reps.c4 (show Kd.FK k30 _ _ (⟨(⟨1, 1⟩ : S25), ([] : List Int), y120⟩ : S30) [.int .i64 1, .int .i64 1, .slice none 0 0, .slice Ao52 y120.length co52] from (k30_mkF _ _ (⟨(⟨1, 1⟩ : S25), ([] : List Int), y120⟩ : S30) (Nat.le_refl _) (Kd.F_nil _ _ _) (Kd.R_reads' (Kd.R_mono (ok' := (fun k_ => k_ ≠ gb123 ∧ k_ ≠ gb127)) (Kd.R_types (Kd.R_types (HO122.out) BK123.out (by decide)) BK127.out (by decide)) (fun k_ hk => ⟨hk.1.2, hk.2⟩))).2.1 (Kd.R_F (Kd.R_mono (ok' := (fun k_ => k_ ≠ gb123 ∧ k_ ≠ gb127)) (Kd.R_types (Kd.R_types (HO122.out) BK123.out (by decide)) BK127.out (by decide)) (fun k_ hk => ⟨hk.1.2, hk.2⟩))))) (Reps.none _ _)))); intro v131 w69 ho70 hb hg_ hnew_; clear hg_ hnew_; (first | rw [← Ny130.out] at ho70 | (simp only [Int.reduceToNat] at ho70; rw [← Ny130.out] at ho70)); have n0_ := Aside0.mk (Kd.N_lower ho70 (below_size z5_2)); have n1_ := Aside0.mk (blk_below (g := gb123) (o := .cells #[.int .i64 1, .int .i64 1, .slice none 0 0, .slice Ao52 y120.length co52] 30 (0, 0)) z5_4 hb); have n2_ := Aside0.mk (blk_below (g := gb127) (o := .cells #[.int .i64 2, .int .i64 1, .slice Ao58 y124.length co58, .slice Ao52 y120.length co52] 30 (0, 0)) z5_8 hb); have n3_ := Aside0.mk (below_step z5_2 hb); clear BK123; clear BK127; clear HB; clear HO122; clear HO126; have HO132 := n0_; have BK123 := n1_; have BK127 := n2_; have HB := n3_; clear n0_ n1_ n2_ n3_; clear hb ho70; obtain ⟨Ao71, co71, eo71⟩ := Kd.N_slice HO132.out; subst eo71) | (go_at_call 48; (with_reducible refine (event_Closed.calls k _ _ y130 false _ ?side1 ?side2 A22.out).mono ?_); (case side1 => exact z5_27); (case side2 => exact (Kd.N_reads' HO132.out).2.1); rintro e w72 ⟨rfl, hb⟩; have n0_ := Aside0.mk (Kd.N_below z5_26 hb); have n1_ := Aside0.mk (blk_below (g := gb123) (o := .cells #[.int .i64 1, .int .i64 1, .slice none 0 0, .slice Ao52 y120.length co52] 30 (0, 0)) z5_4 hb); have n2_ := Aside0.mk (blk_below (g := gb127) (o := .cells #[.int .i64 2, .int .i64 1, .slice Ao58 y124.length co58, .slice Ao52 y120.length co52] 30 (0, 0)) z5_8 hb); have n3_ := Aside0.mk (below_step z5_2 hb); clear HO132; clear BK123; clear BK127; clear HB; have HO132 := n0_; have BK123 := n1_; have BK127 := n2_; have HB := n3_; clear n0_ n1_ n2_ n3_; (try clear hb); (try clear hb2); (try clear hk); (try clear hi)))
    go_ret
    exact ⟨by first | rfl | (simp [errW_none, errW_some] <;> rfl) | (simp [*, errW_none, errW_some] <;> rfl), by repeat (first | (with_reducible first | exact HB.out | apply below_alloc | apply pw_below_drewN | apply below_drew1 | refine below_set ?_ GE123.out | refine below_set ?_ GE127.out) | exact HB.out)⟩
 ·replace c2 := Bool.eq_false_iff.mpr c2
  subst c2
  have H1 : (some false) = some r := by rw [if_neg (show ¬ (false = true) by decide)] at H; exact H
  clear H
  have H := H1
  clear H1
  obtain rfl := Option.some.inj H
  go_enter Try.func12, Try.ntmps12
  go_wp2_with (first | ((with_reducible refine gate_dst (N := 5) rfl ?_); (try (refine gate_guard (by rfl) ?_; dsimp only)); refine Kd.R_lit k48 _ 48 ?hg (N := 5) ?hd (xs := ([(⟨1, 0, (⟨#[107]⟩ : ByteArray), 0, 0, (⟨#[]⟩ : ByteArray)⟩ : S48)] : List (S48))) (inner := [.int .i64 1, .int .i64 0, .string (⟨#[107]⟩ : ByteArray), .int .i64 0, .int .i64 0, .string (⟨#[]⟩ : ByteArray)]) (ok := fun _ => True) (okp := fun _ => True) ?hr ?hp (fun _ hk => hk) trivial (Below.refl _ _) (Nat.le_refl _) (by simp) ?_; (case hd => rfl); (case hg => rfl); (case hr => exact z5_15); (case hp => exact z5_7); intro v121 w73 ho74 hb hg_ hnew_; clear hg_ hnew_; (first | rw [← Ny120.out] at ho74 | (simp only [Int.reduceToNat] at ho74; rw [← Ny120.out] at ho74)); have n0_ := Aside0.mk (Kd.R_lower ho74 (below_size z5_3)); have n1_ := Aside0.mk (below_step z5_3 hb); clear HB; have HO122 := n0_; have HB := n1_; clear n0_ n1_; clear hb ho74; obtain ⟨Ao75, co75, eo75⟩ := Kd.R_slice HO122.out; subst eo75) | ((with_reducible refine gate_dst (N := 1) rfl ?_); (try (refine gate_guard (by rfl) ?_; dsimp only)); refine box_event ?hg (N := 1) ?hd (cs := #[.int .i64 0, .int .i64 0, .slice none 0 0, .slice none 0 0]) (t := 30) ?hr ?_; (case hd => rfl); (case hg => rfl); (case hr => exact z5_15); intro gb123 hg w76 hbox hb; have n0_ := Aside0.mk (Kd.R_below z5_6 hb); have n1_ := Aside0.mk (below_step z5_3 hb); have n2_ := Aside0.mk (hbox); have n3_ := Aside0.mk ((by rw [hg]; exact (below_size z5_3) : w.heap.size ≤ gb123)); have n4_ := Aside0.mk ((by rw [hg]; exact (below_size z5_3) : w.heap.size ≤ gb123)); clear HO122; clear HB; have HO122 := n0_; have HB := n1_; have BK123 := n2_; have GW123 := n3_; have GE123 := n4_; clear n0_ n1_ n2_ n3_ n4_; clear hb hbox hg; have hcz77_0 : w76.cell? ⟨gb123, 0, none⟩ = some (.int .i64 0) := (blk_cell BK123.out 0).trans rfl; have hcz77_1 : w76.cell? ⟨gb123, 1, none⟩ = some (.int .i64 0) := (blk_cell BK123.out 1).trans rfl; have hcz77_2 : w76.cell? ⟨gb123, 2, none⟩ = some (.slice none 0 0) := (blk_cell BK123.out 2).trans rfl; have hcz77_3 : w76.cell? ⟨gb123, 3, none⟩ = some (.slice none 0 0) := (blk_cell BK123.out 3).trans rfl; have hfz77_0 := blk_frozen BK123.out 0; have hfz77_1 := blk_frozen BK123.out 1; have hfz77_2 := blk_frozen BK123.out 2; have hfz77_3 := blk_frozen BK123.out 3) | ((with_reducible refine gate_dst (N := 8) rfl ?_); (try (refine gate_guard (by rfl) ?_; dsimp only)); refine Kd.R_lit (Kd.int .i64) _ 3 ?hg (N := 8) ?hd (xs := ([1] : List Int)) (inner := [.int .i64 1]) (ok := fun _ => True) (okp := fun _ => True) ?hr ?hp (fun _ hk => hk) trivial (Below.refl _ _) (Nat.le_refl _) (by simp) ?_; (case hd => rfl); (case hg => rfl); (case hr => exact z5_15); (case hp => exact z5_23); intro v125 w78 ho79 hb hg_ hnew_; clear hg_ hnew_; (first | rw [← Ny124.out] at ho79 | (simp only [Int.reduceToNat] at ho79; rw [← Ny124.out] at ho79)); have n0_ := Aside0.mk (Kd.R_below (by (with_reducible repeat (first | apply Kd.R_alloc | apply Kd.R_drewN | apply Kd.R_drew)); exact (Kd.R_mono (Kd.R_far (p := ⟨gb123, 3, none⟩) (Kd.R_far (p := ⟨gb123, 2, none⟩) (Kd.R_far (p := ⟨gb123, 1, none⟩) (Kd.R_far (p := ⟨gb123, 0, none⟩) (Kd.R_types HO122.out BK123.out (by decide)) (fun _ hk => hk.2) (.int .i64 1)) (fun _ hk => hk.2) (.int .i64 1)) (fun _ hk => hk.2) (.slice none 0 0)) (fun _ hk => hk.2) (.slice Ao75 y120.length co75)) (fun _ h_ => h_.1))) hb); have n1_ := Aside0.mk (Kd.R_lower ho79 (below_size z5_0)); have n2_ := Aside0.mk (blk_below (g := gb123) (o := .cells #[.int .i64 1, .int .i64 1, .slice none 0 0, .slice Ao75 y120.length co75] 30 (0, 0)) z5_1 hb); have n3_ := Aside0.mk (below_step z5_0 hb); clear HO122; clear BK123; clear HB; have HO122 := n0_; have HO126 := n1_; have BK123 := n2_; have HB := n3_; clear n0_ n1_ n2_ n3_; clear hb ho79; have hcz80_0 : w78.cell? ⟨gb123, 0, none⟩ = some (.int .i64 1) := (blk_cell BK123.out 0).trans rfl; have hcz80_1 : w78.cell? ⟨gb123, 1, none⟩ = some (.int .i64 1) := (blk_cell BK123.out 1).trans rfl; have hcz80_2 : w78.cell? ⟨gb123, 2, none⟩ = some (.slice none 0 0) := (blk_cell BK123.out 2).trans rfl; have hcz80_3 : w78.cell? ⟨gb123, 3, none⟩ = some (.slice Ao75 y120.length co75) := (blk_cell BK123.out 3).trans rfl; have hfz80_0 := blk_frozen BK123.out 0; have hfz80_1 := blk_frozen BK123.out 1; have hfz80_2 := blk_frozen BK123.out 2; have hfz80_3 := blk_frozen BK123.out 3; obtain ⟨Ao81, co81, eo81⟩ := Kd.R_slice HO126.out; subst eo81) | ((with_reducible refine gate_dst (N := 2) rfl ?_); (try (refine gate_guard (by rfl) ?_; dsimp only)); refine box_event ?hg (N := 2) ?hd (cs := #[.int .i64 0, .int .i64 0, .slice none 0 0, .slice none 0 0]) (t := 30) ?hr ?_; (case hd => rfl); (case hg => rfl); (case hr => exact z5_15); intro gb127 hg w82 hbox hb; have n0_ := Aside0.mk (Kd.R_below z5_6 hb); have n1_ := Aside0.mk (Kd.R_below z5_14 hb); have n2_ := Aside0.mk (blk_below (g := gb123) (o := .cells #[.int .i64 1, .int .i64 1, .slice none 0 0, .slice Ao75 y120.length co75] 30 (0, 0)) z5_4 hb); have n3_ := Aside0.mk (below_step z5_0 hb); have n4_ := Aside0.mk (hbox); have n5_ := Aside0.mk ((by rw [hg]; exact (below_size z5_0) : w.heap.size ≤ gb127)); have n6_ := Aside0.mk ((by rw [hg]; exact (below_size z5_0) : w.heap.size ≤ gb127)); have n7_ := Aside0.mk ((by rw [hg]; exact Nat.ne_of_lt (blk_lt (g := gb123) (o := .cells #[.int .i64 1, .int .i64 1, .slice none 0 0, .slice Ao75 y120.length co75] 30 (0, 0)) z5_4) : gb123 ≠ gb127)); have n8_ := Aside0.mk ((by rw [hg]; exact Nat.ne_of_gt (blk_lt (g := gb123) (o := .cells #[.int .i64 1, .int .i64 1, .slice none 0 0, .slice Ao75 y120.length co75] 30 (0, 0)) z5_4) : gb127 ≠ gb123)); clear HO122; clear HO126; clear BK123; clear HB; have HO122 := n0_; have HO126 := n1_; have BK123 := n2_; have HB := n3_; have BK127 := n4_; have GW127 := n5_; have GE127 := n6_; have NB123_127 := n7_; have NB127_123 := n8_; clear n0_ n1_ n2_ n3_ n4_ n5_ n6_ n7_ n8_; clear hb hbox hg; have hnb83 := NB127_123.out; have hnc83 := NB123_127.out; have hcz84_0 : w82.cell? ⟨gb127, 0, none⟩ = some (.int .i64 0) := (blk_cell BK127.out 0).trans rfl; have hcz84_1 : w82.cell? ⟨gb127, 1, none⟩ = some (.int .i64 0) := (blk_cell BK127.out 1).trans rfl; have hcz84_2 : w82.cell? ⟨gb127, 2, none⟩ = some (.slice none 0 0) := (blk_cell BK127.out 2).trans rfl; have hcz84_3 : w82.cell? ⟨gb127, 3, none⟩ = some (.slice none 0 0) := (blk_cell BK127.out 3).trans rfl; have hfz84_0 := blk_frozen BK127.out 0; have hfz84_1 := blk_frozen BK127.out 1; have hfz84_2 := blk_frozen BK127.out 2; have hfz84_3 := blk_frozen BK127.out 3; have hcz85_0 : w82.cell? ⟨gb123, 0, none⟩ = some (.int .i64 1) := (blk_cell BK123.out 0).trans rfl; have hcz85_1 : w82.cell? ⟨gb123, 1, none⟩ = some (.int .i64 1) := (blk_cell BK123.out 1).trans rfl; have hcz85_2 : w82.cell? ⟨gb123, 2, none⟩ = some (.slice none 0 0) := (blk_cell BK123.out 2).trans rfl; have hcz85_3 : w82.cell? ⟨gb123, 3, none⟩ = some (.slice Ao75 y120.length co75) := (blk_cell BK123.out 3).trans rfl; have hfz85_0 := blk_frozen BK123.out 0; have hfz85_1 := blk_frozen BK123.out 1; have hfz85_2 := blk_frozen BK123.out 2; have hfz85_3 := blk_frozen BK123.out 3) | ((with_reducible refine gate_callee (f := 21) rfl ?_); refine goesL_ (some 14) rfl rfl Try.func21 (by kernel_rfl) rfl #[.agg #[.int .i64 1, .int .i64 1, .slice none 0 0, .slice Ao75 y120.length co75], .agg #[.int .i64 2, .int .i64 1, .slice Ao81 y124.length co81, .slice Ao75 y120.length co75]] rfl z5_22 ?_; (refine (event_Ahead.calls 1 1 _ _ ([] : List Int) _ _ y120 2 1 _ _ y124 _ _ y120 false _ ?side1 ?side2 ?side3 ?side4 ?side5 ?side6 ?side7 ?side8 A1.out).mono ?_); (case side1 => exact Kd.C_nil _ _); (case side2 => exact Nat.le_refl _); (case side3 => refine (Kd.R_reads' (e := 48) (base := w.heap.size) (ok := fun k_ => True) (n := y120.length) (c := co75) ?_).2.2; exact z5_12); (case side4 => exact z5_21); (case side5 => refine (Kd.R_reads' (e := 3) (base := w.heap.size) (ok := fun k_ => True) (n := y124.length) (c := co81) ?_).2.2; exact z5_19); (case side6 => exact z5_25); (case side7 => refine (Kd.R_reads' (e := 48) (base := w.heap.size) (ok := fun k_ => True) (n := y120.length) (c := co75) ?_).2.2; exact z5_12); (case side8 => exact z5_21); rintro e w86 ⟨rfl, hb⟩; refine ⟨_, rfl, ?_⟩; have n0_ := Aside0.mk (Kd.R_below z5_12 hb); have n1_ := Aside0.mk (Kd.R_below z5_19 hb); have n2_ := Aside0.mk (blk_below (g := gb123) (o := .cells #[.int .i64 1, .int .i64 1, .slice none 0 0, .slice Ao75 y120.length co75] 30 (0, 0)) z5_5 hb); have n3_ := Aside0.mk (blk_below (g := gb127) (o := .cells #[.int .i64 2, .int .i64 1, .slice Ao81 y124.length co81, .slice Ao75 y120.length co75] 30 (0, 0)) (by (with_reducible repeat (first | refine blk_drewN ?_ _ | refine blk_drew ?_ | refine blk_alloc ?_ _)); refine blk_put (cs := #[.int .i64 2, .int .i64 1, .slice Ao81 y124.length co81, .slice none 0 0]) ?_ 3 _ rfl; (with_reducible repeat (first | refine blk_drewN ?_ _ | refine blk_drew ?_ | refine blk_alloc ?_ _)); refine blk_put (cs := #[.int .i64 2, .int .i64 1, .slice none 0 0, .slice none 0 0]) ?_ 2 _ rfl; (with_reducible repeat (first | refine blk_drewN ?_ _ | refine blk_drew ?_ | refine blk_alloc ?_ _)); refine blk_put (cs := #[.int .i64 2, .int .i64 0, .slice none 0 0, .slice none 0 0]) ?_ 1 _ rfl; (with_reducible repeat (first | refine blk_drewN ?_ _ | refine blk_drew ?_ | refine blk_alloc ?_ _)); refine blk_put (cs := #[.int .i64 0, .int .i64 0, .slice none 0 0, .slice none 0 0]) ?_ 0 _ rfl; (with_reducible repeat (first | refine blk_drewN ?_ _ | refine blk_drew ?_ | refine blk_alloc ?_ _)); exact BK127.out) hb); have n4_ := Aside0.mk (below_step z5_2 hb); clear HO122; clear HO126; clear BK123; clear BK127; clear HB; have HO122 := n0_; have HO126 := n1_; have BK123 := n2_; have BK127 := n3_; have HB := n4_; clear n0_ n1_ n2_ n3_ n4_; (try clear hb); (try clear hb2); (try clear hk); (try clear hi)))
  go_ret
  exact ⟨by first | rfl | (simp [errW_none, errW_some] <;> rfl) | (simp [*, errW_none, errW_some] <;> rfl), by repeat (first | (with_reducible first | exact HB.out | apply below_alloc | apply pw_below_drewN | apply below_drew1 | refine below_set ?_ GE123.out | refine below_set ?_ GE127.out) | exact HB.out)⟩
end Go.Proofs.Ytgocnchjpecafaa.PEv
