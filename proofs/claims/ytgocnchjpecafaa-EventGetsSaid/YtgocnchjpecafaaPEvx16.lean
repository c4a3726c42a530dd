/- a part -/
import Derived.Test.YtgocnchjpecafaaPEvx0
import Derived.Test.YtgocnchjpecafaaPEvx1
import Derived.Test.YtgocnchjpecafaaPEvx2
import Derived.Test.YtgocnchjpecafaaPEvx4
import Derived.Test.YtgocnchjpecafaaPEvx7
import Derived.Test.YtgocnchjpecafaaPEvx9
import Derived.Test.YtgocnchjpecafaaPEvx15
namespace Go.Proofs.Ytgocnchjpecafaa.PEv
open Go.RowKit Go.Proofs.YtgocnchjpecafaaW.PrintWords Go.Proofs.YtgocnchjpecafaaW.PrintLast Go.Proofs.YtgocnchjpecafaaW.PrintMore
attribute [local go_sem] max2_int min2_int max_two min_two max_three min_three max_four min_four
set_option linter.unusedVariables false
set_option linter.unusedSimpArgs false
attribute [local go_sem high] eqA25 eqA48
theorem z16_0 {P : Prop} (h : P := by repeat (first | (with_reducible first | exact HB.out | apply below_alloc | apply pw_below_drewN | apply below_drew1) | exact HB.out)) : P := h
theorem z16_1 {P : Prop} (h : P := by repeat (first | (with_reducible first | exact HB.out | apply below_alloc | apply pw_below_drewN | apply below_drew1 | refine below_set ?_ GE365.out) | exact HB.out)) : P := h
theorem z16_2 {P : Prop} (h : P := by (with_reducible repeat (first | refine blk_drewN ?_ _ | refine blk_drew ?_ | refine blk_alloc ?_ _)); refine blk_far ?_ NB365_375.out _; (with_reducible repeat (first | refine blk_drewN ?_ _ | refine blk_drew ?_ | refine blk_alloc ?_ _)); refine blk_far ?_ NB365_375.out _; (with_reducible repeat (first | refine blk_drewN ?_ _ | refine blk_drew ?_ | refine blk_alloc ?_ _)); refine blk_far ?_ NB365_375.out _; (with_reducible repeat (first | refine blk_drewN ?_ _ | refine blk_drew ?_ | refine blk_alloc ?_ _)); refine blk_far ?_ NB365_375.out _; (with_reducible repeat (first | refine blk_drewN ?_ _ | refine blk_drew ?_ | refine blk_alloc ?_ _)); exact BK365.out) : P := h
theorem z16_3 {P : Prop} (h : P := by (try simp only [List.map_toArray, List.map_cons, List.map_nil]); first | done | rfl | (simp only [List.length_drop, List.length_take]; rfl)) : P := h
theorem z16_4 {P : Prop} (h : P := by (with_reducible repeat (first | refine blk_drewN ?_ _ | refine blk_drew ?_ | refine blk_alloc ?_ _)); exact BK365.out) : P := h
theorem z16_5 {P : Prop} (h : P := by repeat (first | (with_reducible first | exact HB.out | apply below_alloc | apply pw_below_drewN | apply below_drew1 | refine below_set ?_ GE344.out) | exact HB.out)) : P := h
theorem z16_6 {P : Prop} (h : P := by (with_reducible repeat (first | apply Kd.R_alloc | apply Kd.R_drewN | apply Kd.R_drew)); exact HO355.out) : P := h
theorem z16_7 {P : Prop} (h : P := by (with_reducible repeat (first | refine blk_drewN ?_ _ | refine blk_drew ?_ | refine blk_alloc ?_ _)); exact BK344.out) : P := h
theorem z16_8 {P : Prop} (h : P := by repeat (first | exact (Kd.C_below HR0_2.out HB.out) | (with_reducible refine Kd.C_alloc ?_ _) | (with_reducible refine Kd.C_drewN ?_ _) | (with_reducible refine Kd.C_drew ?_))) : P := h
theorem z16_9 {P : Prop} (h : P := by repeat (first | exact (Kd.C_below HR1_2.out HB.out) | (with_reducible refine Kd.C_alloc ?_ _) | (with_reducible refine Kd.C_drewN ?_ _) | (with_reducible refine Kd.C_drew ?_))) : P := h
theorem z16_10 {P : Prop} (h : P := by (with_reducible repeat (first | apply Kd.R_alloc | apply Kd.R_drewN | apply Kd.R_drew)); exact HO360.out) : P := h
theorem z16_11 {P : Prop} (h : P := by (with_reducible repeat (first | apply Kd.R_alloc | apply Kd.R_drewN | apply Kd.R_drew)); exact HO363.out) : P := h
theorem z16_12 {P : Prop} (h : P := by repeat (first | (with_reducible first | exact HB.out | apply below_alloc | apply pw_below_drewN | apply below_drew1 | refine below_set ?_ GE365.out | refine below_set ?_ GE375.out) | exact HB.out)) : P := h
theorem z16_13 {P : Prop} (h : P := by first | (go_simp; done) | (go_simp; rfl)) : P := h
theorem z16_14 {P : Prop} (h : P := by repeat (first | exact (Kd.C_below HR0.out HB.out) | (with_reducible refine Kd.C_alloc ?_ _) | (with_reducible refine Kd.C_drewN ?_ _) | (with_reducible refine Kd.C_drew ?_))) : P := h
theorem z16_15 {P : Prop} (h : P := by repeat (first | exact (Kd.R_reads' HO355.out).2.2 | (with_reducible refine Kd.C_alloc ?_ _) | (with_reducible refine Kd.C_drewN ?_ _) | (with_reducible refine Kd.C_drew ?_))) : P := h
theorem z16_16 {P : Prop} (h : P := by (with_reducible repeat (first | apply Kd.R_alloc | apply Kd.R_drewN | apply Kd.R_drew)); exact (Kd.R_mono (Kd.R_far (p := ⟨gb365, 3, none⟩) (Kd.R_far (p := ⟨gb365, 2, none⟩) (Kd.R_far (p := ⟨gb365, 1, none⟩) (Kd.R_far (p := ⟨gb365, 0, none⟩) (Kd.R_types HO360.out BK365.out (by decide)) (fun _ hk => hk.2) (.int .i64 t356)) (fun _ hk => hk.2) (.int .i64 t357)) (fun _ hk => hk.2) (.slice Ao20 t358.length co20)) (fun _ hk => hk.2) (.slice Ao21 t361.length co21)) (fun _ h_ => h_.1))) : P := h
theorem z16_17 {P : Prop} (h : P := by (with_reducible repeat (first | apply Kd.R_alloc | apply Kd.R_drewN | apply Kd.R_drew)); exact (Kd.R_mono (Kd.R_far (p := ⟨gb365, 3, none⟩) (Kd.R_far (p := ⟨gb365, 2, none⟩) (Kd.R_far (p := ⟨gb365, 1, none⟩) (Kd.R_far (p := ⟨gb365, 0, none⟩) (Kd.R_types HO363.out BK365.out (by decide)) (fun _ hk => hk.2) (.int .i64 t356)) (fun _ hk => hk.2) (.int .i64 t357)) (fun _ hk => hk.2) (.slice Ao20 t358.length co20)) (fun _ hk => hk.2) (.slice Ao21 t361.length co21)) (fun _ h_ => h_.1))) : P := h
theorem z16_18 {P : Prop} (h : P := by (with_reducible repeat (first | apply Kd.R_alloc | apply Kd.R_drewN | apply Kd.R_drew)); exact (Kd.R_mono (Kd.R_far (p := ⟨gb375, 3, none⟩) (Kd.R_far (p := ⟨gb375, 2, none⟩) (Kd.R_far (p := ⟨gb375, 1, none⟩) (Kd.R_far (p := ⟨gb375, 0, none⟩) (Kd.R_types HO360.out BK375.out (by decide)) (fun _ hk => hk.2) (.int .i64 t366)) (fun _ hk => hk.2) (.int .i64 t367)) (fun _ hk => hk.2) (.slice Ao26 t368.length co26)) (fun _ hk => hk.2) (.slice Ao27 t371.length co27)) (fun _ h_ => h_.1))) : P := h
theorem z16_19 {P : Prop} (h : P := by (with_reducible repeat (first | apply Kd.R_alloc | apply Kd.R_drewN | apply Kd.R_drew)); exact (Kd.R_mono (Kd.R_far (p := ⟨gb375, 3, none⟩) (Kd.R_far (p := ⟨gb375, 2, none⟩) (Kd.R_far (p := ⟨gb375, 1, none⟩) (Kd.R_far (p := ⟨gb375, 0, none⟩) (Kd.R_types HO363.out BK375.out (by decide)) (fun _ hk => hk.2) (.int .i64 t366)) (fun _ hk => hk.2) (.int .i64 t367)) (fun _ hk => hk.2) (.slice Ao26 t368.length co26)) (fun _ hk => hk.2) (.slice Ao27 t371.length co27)) (fun _ h_ => h_.1))) : P := h
theorem z16_20 {P : Prop} (h : P := by (with_reducible repeat (first | apply Kd.R_alloc | apply Kd.R_drewN | apply Kd.R_drew)); exact (Kd.R_mono (Kd.R_far (p := ⟨gb375, 3, none⟩) (Kd.R_far (p := ⟨gb375, 2, none⟩) (Kd.R_far (p := ⟨gb375, 1, none⟩) (Kd.R_far (p := ⟨gb375, 0, none⟩) (Kd.R_types HO370.out BK375.out (by decide)) (fun _ hk => hk.2) (.int .i64 t366)) (fun _ hk => hk.2) (.int .i64 t367)) (fun _ hk => hk.2) (.slice Ao26 t368.length co26)) (fun _ hk => hk.2) (.slice Ao27 t371.length co27)) (fun _ h_ => h_.1))) : P := h
theorem z16_21 {P : Prop} (h : P := by (with_reducible repeat (first | apply Kd.R_alloc | apply Kd.R_drewN | apply Kd.R_drew)); exact (Kd.R_mono (Kd.R_far (p := ⟨gb375, 3, none⟩) (Kd.R_far (p := ⟨gb375, 2, none⟩) (Kd.R_far (p := ⟨gb375, 1, none⟩) (Kd.R_far (p := ⟨gb375, 0, none⟩) (Kd.R_types HO373.out BK375.out (by decide)) (fun _ hk => hk.2) (.int .i64 t366)) (fun _ hk => hk.2) (.int .i64 t367)) (fun _ hk => hk.2) (.slice Ao26 t368.length co26)) (fun _ hk => hk.2) (.slice Ao27 t371.length co27)) (fun _ h_ => h_.1))) : P := h
theorem z16_22 {P : Prop} (h : P := by (with_reducible repeat (first | apply Kd.R_alloc | apply Kd.R_drewN | apply Kd.R_drew)); exact (Kd.R_mono (Kd.R_far (p := ⟨gb365, 3, none⟩) (Kd.R_far (p := ⟨gb365, 2, none⟩) (Kd.R_far (p := ⟨gb365, 1, none⟩) (Kd.R_far (p := ⟨gb365, 0, none⟩) (Kd.R_types HO360.out BK365.out (by decide)) (fun _ hk => hk.2) (.int .i64 t356)) (fun _ hk => hk.2) (.int .i64 t357)) (fun _ hk => hk.2) (.slice Ao38 t358.length co38)) (fun _ hk => hk.2) (.slice Ao39 t361.length co39)) (fun _ h_ => h_.1))) : P := h
theorem z16_23 {P : Prop} (h : P := by (with_reducible repeat (first | apply Kd.R_alloc | apply Kd.R_drewN | apply Kd.R_drew)); exact (Kd.R_mono (Kd.R_far (p := ⟨gb365, 3, none⟩) (Kd.R_far (p := ⟨gb365, 2, none⟩) (Kd.R_far (p := ⟨gb365, 1, none⟩) (Kd.R_far (p := ⟨gb365, 0, none⟩) (Kd.R_types HO363.out BK365.out (by decide)) (fun _ hk => hk.2) (.int .i64 t356)) (fun _ hk => hk.2) (.int .i64 t357)) (fun _ hk => hk.2) (.slice Ao38 t358.length co38)) (fun _ hk => hk.2) (.slice Ao39 t361.length co39)) (fun _ h_ => h_.1))) : P := h
theorem z16_24 {P : Prop} (h : P := by (with_reducible repeat (first | apply Kd.R_alloc | apply Kd.R_drewN | apply Kd.R_drew)); exact (Kd.R_mono (Kd.R_far (p := ⟨gb375, 3, none⟩) (Kd.R_far (p := ⟨gb375, 2, none⟩) (Kd.R_far (p := ⟨gb375, 1, none⟩) (Kd.R_far (p := ⟨gb375, 0, none⟩) (Kd.R_types HO360.out BK375.out (by decide)) (fun _ hk => hk.2) (.int .i64 t366)) (fun _ hk => hk.2) (.int .i64 t367)) (fun _ hk => hk.2) (.slice Ao44 t368.length co44)) (fun _ hk => hk.2) (.slice Ao45 t371.length co45)) (fun _ h_ => h_.1))) : P := h
theorem z16_25 {P : Prop} (h : P := by (with_reducible repeat (first | apply Kd.R_alloc | apply Kd.R_drewN | apply Kd.R_drew)); exact (Kd.R_mono (Kd.R_far (p := ⟨gb375, 3, none⟩) (Kd.R_far (p := ⟨gb375, 2, none⟩) (Kd.R_far (p := ⟨gb375, 1, none⟩) (Kd.R_far (p := ⟨gb375, 0, none⟩) (Kd.R_types HO363.out BK375.out (by decide)) (fun _ hk => hk.2) (.int .i64 t366)) (fun _ hk => hk.2) (.int .i64 t367)) (fun _ hk => hk.2) (.slice Ao44 t368.length co44)) (fun _ hk => hk.2) (.slice Ao45 t371.length co45)) (fun _ h_ => h_.1))) : P := h
theorem z16_26 {P : Prop} (h : P := by (with_reducible repeat (first | apply Kd.R_alloc | apply Kd.R_drewN | apply Kd.R_drew)); exact (Kd.R_mono (Kd.R_far (p := ⟨gb375, 3, none⟩) (Kd.R_far (p := ⟨gb375, 2, none⟩) (Kd.R_far (p := ⟨gb375, 1, none⟩) (Kd.R_far (p := ⟨gb375, 0, none⟩) (Kd.R_types HO370.out BK375.out (by decide)) (fun _ hk => hk.2) (.int .i64 t366)) (fun _ hk => hk.2) (.int .i64 t367)) (fun _ hk => hk.2) (.slice Ao44 t368.length co44)) (fun _ hk => hk.2) (.slice Ao45 t371.length co45)) (fun _ h_ => h_.1))) : P := h
theorem z16_27 {P : Prop} (h : P := by (with_reducible repeat (first | apply Kd.R_alloc | apply Kd.R_drewN | apply Kd.R_drew)); exact (Kd.R_mono (Kd.R_far (p := ⟨gb375, 3, none⟩) (Kd.R_far (p := ⟨gb375, 2, none⟩) (Kd.R_far (p := ⟨gb375, 1, none⟩) (Kd.R_far (p := ⟨gb375, 0, none⟩) (Kd.R_types HO373.out BK375.out (by decide)) (fun _ hk => hk.2) (.int .i64 t366)) (fun _ hk => hk.2) (.int .i64 t367)) (fun _ hk => hk.2) (.slice Ao44 t368.length co44)) (fun _ hk => hk.2) (.slice Ao45 t371.length co45)) (fun _ h_ => h_.1))) : P := h
theorem z16_28 {P : Prop} (h : P := by (with_reducible repeat (first | apply Kd.R_alloc | apply Kd.R_drewN | apply Kd.R_drew)); exact (Kd.R_mono (Kd.R_far (p := ⟨gb365, 3, none⟩) (Kd.R_far (p := ⟨gb365, 2, none⟩) (Kd.R_far (p := ⟨gb365, 1, none⟩) (Kd.R_far (p := ⟨gb365, 0, none⟩) (Kd.R_types HO360.out BK365.out (by decide)) (fun _ hk => hk.2) (.int .i64 t356)) (fun _ hk => hk.2) (.int .i64 t357)) (fun _ hk => hk.2) (.slice Ao55 t358.length co55)) (fun _ hk => hk.2) (.slice Ao56 t361.length co56)) (fun _ h_ => h_.1))) : P := h
theorem z16_29 {P : Prop} (h : P := by (with_reducible repeat (first | apply Kd.R_alloc | apply Kd.R_drewN | apply Kd.R_drew)); exact (Kd.R_mono (Kd.R_far (p := ⟨gb365, 3, none⟩) (Kd.R_far (p := ⟨gb365, 2, none⟩) (Kd.R_far (p := ⟨gb365, 1, none⟩) (Kd.R_far (p := ⟨gb365, 0, none⟩) (Kd.R_types HO363.out BK365.out (by decide)) (fun _ hk => hk.2) (.int .i64 t356)) (fun _ hk => hk.2) (.int .i64 t357)) (fun _ hk => hk.2) (.slice Ao55 t358.length co55)) (fun _ hk => hk.2) (.slice Ao56 t361.length co56)) (fun _ h_ => h_.1))) : P := h
theorem z16_30 {P : Prop} (h : P := by (with_reducible repeat (first | apply Kd.R_alloc | apply Kd.R_drewN | apply Kd.R_drew)); exact (Kd.R_mono (Kd.R_far (p := ⟨gb375, 3, none⟩) (Kd.R_far (p := ⟨gb375, 2, none⟩) (Kd.R_far (p := ⟨gb375, 1, none⟩) (Kd.R_far (p := ⟨gb375, 0, none⟩) (Kd.R_types HO360.out BK375.out (by decide)) (fun _ hk => hk.2) (.int .i64 t366)) (fun _ hk => hk.2) (.int .i64 t367)) (fun _ hk => hk.2) (.slice Ao61 t368.length co61)) (fun _ hk => hk.2) (.slice Ao62 t371.length co62)) (fun _ h_ => h_.1))) : P := h
theorem z16_31 {P : Prop} (h : P := by (with_reducible repeat (first | apply Kd.R_alloc | apply Kd.R_drewN | apply Kd.R_drew)); exact (Kd.R_mono (Kd.R_far (p := ⟨gb375, 3, none⟩) (Kd.R_far (p := ⟨gb375, 2, none⟩) (Kd.R_far (p := ⟨gb375, 1, none⟩) (Kd.R_far (p := ⟨gb375, 0, none⟩) (Kd.R_types HO363.out BK375.out (by decide)) (fun _ hk => hk.2) (.int .i64 t366)) (fun _ hk => hk.2) (.int .i64 t367)) (fun _ hk => hk.2) (.slice Ao61 t368.length co61)) (fun _ hk => hk.2) (.slice Ao62 t371.length co62)) (fun _ h_ => h_.1))) : P := h
theorem z16_32 {P : Prop} (h : P := by (with_reducible repeat (first | apply Kd.R_alloc | apply Kd.R_drewN | apply Kd.R_drew)); exact (Kd.R_mono (Kd.R_far (p := ⟨gb375, 3, none⟩) (Kd.R_far (p := ⟨gb375, 2, none⟩) (Kd.R_far (p := ⟨gb375, 1, none⟩) (Kd.R_far (p := ⟨gb375, 0, none⟩) (Kd.R_types HO370.out BK375.out (by decide)) (fun _ hk => hk.2) (.int .i64 t366)) (fun _ hk => hk.2) (.int .i64 t367)) (fun _ hk => hk.2) (.slice Ao61 t368.length co61)) (fun _ hk => hk.2) (.slice Ao62 t371.length co62)) (fun _ h_ => h_.1))) : P := h
theorem z16_33 {P : Prop} (h : P := by (with_reducible repeat (first | apply Kd.R_alloc | apply Kd.R_drewN | apply Kd.R_drew)); exact (Kd.R_mono (Kd.R_far (p := ⟨gb375, 3, none⟩) (Kd.R_far (p := ⟨gb375, 2, none⟩) (Kd.R_far (p := ⟨gb375, 1, none⟩) (Kd.R_far (p := ⟨gb375, 0, none⟩) (Kd.R_types HO373.out BK375.out (by decide)) (fun _ hk => hk.2) (.int .i64 t366)) (fun _ hk => hk.2) (.int .i64 t367)) (fun _ hk => hk.2) (.slice Ao61 t368.length co61)) (fun _ hk => hk.2) (.slice Ao62 t371.length co62)) (fun _ h_ => h_.1))) : P := h
theorem z16_34 {P : Prop} (h : P := by (with_reducible repeat (first | apply Kd.R_alloc | apply Kd.R_drewN | apply Kd.R_drew)); exact (Kd.R_mono (Kd.R_far (p := ⟨gb365, 3, none⟩) (Kd.R_far (p := ⟨gb365, 2, none⟩) (Kd.R_far (p := ⟨gb365, 1, none⟩) (Kd.R_far (p := ⟨gb365, 0, none⟩) (Kd.R_types HO360.out BK365.out (by decide)) (fun _ hk => hk.2) (.int .i64 t356)) (fun _ hk => hk.2) (.int .i64 t357)) (fun _ hk => hk.2) (.slice Ao72 t358.length co72)) (fun _ hk => hk.2) (.slice Ao73 t361.length co73)) (fun _ h_ => h_.1))) : P := h
theorem z16_35 {P : Prop} (h : P := by (with_reducible repeat (first | apply Kd.R_alloc | apply Kd.R_drewN | apply Kd.R_drew)); exact (Kd.R_mono (Kd.R_far (p := ⟨gb365, 3, none⟩) (Kd.R_far (p := ⟨gb365, 2, none⟩) (Kd.R_far (p := ⟨gb365, 1, none⟩) (Kd.R_far (p := ⟨gb365, 0, none⟩) (Kd.R_types HO363.out BK365.out (by decide)) (fun _ hk => hk.2) (.int .i64 t356)) (fun _ hk => hk.2) (.int .i64 t357)) (fun _ hk => hk.2) (.slice Ao72 t358.length co72)) (fun _ hk => hk.2) (.slice Ao73 t361.length co73)) (fun _ h_ => h_.1))) : P := h
theorem z16_36 {P : Prop} (h : P := by (with_reducible repeat (first | apply Kd.R_alloc | apply Kd.R_drewN | apply Kd.R_drew)); exact (Kd.R_mono (Kd.R_far (p := ⟨gb375, 3, none⟩) (Kd.R_far (p := ⟨gb375, 2, none⟩) (Kd.R_far (p := ⟨gb375, 1, none⟩) (Kd.R_far (p := ⟨gb375, 0, none⟩) (Kd.R_types HO360.out BK375.out (by decide)) (fun _ hk => hk.2) (.int .i64 t366)) (fun _ hk => hk.2) (.int .i64 t367)) (fun _ hk => hk.2) (.slice Ao78 t368.length co78)) (fun _ hk => hk.2) (.slice Ao79 t371.length co79)) (fun _ h_ => h_.1))) : P := h
theorem z16_37 {P : Prop} (h : P := by (with_reducible repeat (first | apply Kd.R_alloc | apply Kd.R_drewN | apply Kd.R_drew)); exact (Kd.R_mono (Kd.R_far (p := ⟨gb375, 3, none⟩) (Kd.R_far (p := ⟨gb375, 2, none⟩) (Kd.R_far (p := ⟨gb375, 1, none⟩) (Kd.R_far (p := ⟨gb375, 0, none⟩) (Kd.R_types HO363.out BK375.out (by decide)) (fun _ hk => hk.2) (.int .i64 t366)) (fun _ hk => hk.2) (.int .i64 t367)) (fun _ hk => hk.2) (.slice Ao78 t368.length co78)) (fun _ hk => hk.2) (.slice Ao79 t371.length co79)) (fun _ h_ => h_.1))) : P := h
theorem z16_38 {P : Prop} (h : P := by (with_reducible repeat (first | apply Kd.R_alloc | apply Kd.R_drewN | apply Kd.R_drew)); exact (Kd.R_mono (Kd.R_far (p := ⟨gb375, 3, none⟩) (Kd.R_far (p := ⟨gb375, 2, none⟩) (Kd.R_far (p := ⟨gb375, 1, none⟩) (Kd.R_far (p := ⟨gb375, 0, none⟩) (Kd.R_types HO370.out BK375.out (by decide)) (fun _ hk => hk.2) (.int .i64 t366)) (fun _ hk => hk.2) (.int .i64 t367)) (fun _ hk => hk.2) (.slice Ao78 t368.length co78)) (fun _ hk => hk.2) (.slice Ao79 t371.length co79)) (fun _ h_ => h_.1))) : P := h
theorem z16_39 {P : Prop} (h : P := by (with_reducible repeat (first | apply Kd.R_alloc | apply Kd.R_drewN | apply Kd.R_drew)); exact (Kd.R_mono (Kd.R_far (p := ⟨gb375, 3, none⟩) (Kd.R_far (p := ⟨gb375, 2, none⟩) (Kd.R_far (p := ⟨gb375, 1, none⟩) (Kd.R_far (p := ⟨gb375, 0, none⟩) (Kd.R_types HO373.out BK375.out (by decide)) (fun _ hk => hk.2) (.int .i64 t366)) (fun _ hk => hk.2) (.int .i64 t367)) (fun _ hk => hk.2) (.slice Ao78 t368.length co78)) (fun _ hk => hk.2) (.slice Ao79 t371.length co79)) (fun _ h_ => h_.1))) : P := h
theorem z16_40 {P : Prop} (h : P := by (with_reducible repeat (first | apply Kd.R_alloc | apply Kd.R_drewN | apply Kd.R_drew)); exact HO370.out) : P := h
theorem z16_41 {P : Prop} (h : P := by (with_reducible repeat (first | apply Kd.R_alloc | apply Kd.R_drewN | apply Kd.R_drew)); exact HO373.out) : P := h
theorem z16_42 {P : Prop} (h : P := by exact (by (with_reducible repeat (first | apply Kd.R_alloc | apply Kd.R_drewN | apply Kd.R_drew)); exact HO352.out)) : P := h
theorem z16_43 {P : Prop} (h : P := by first | (with_reducible assumption) | assumption) : P := h
theorem z16_44 {P : Prop} (h : P := by first | rfl | (simp; done) | (simp [*]; done)) : P := h
mutual
def hucksterref05_Same.j0 : Nat → Bool → Int → Int → List Int → List (S48) → Int → Int → List Int → List (S48) → Option (Bool)
 | 0, _, _, _, _, _, _, _, _, _ => none
 | k + 1, x27, x345000, x345001, x345002, x345003, x346000, x346001, x346002, x346003 => if x27 = true then (some false) else (hucksterref05_Same.l0 k 0 x345000 x345001 x345002 x345003 x346000 x346001 x346002 x346003)
def hucksterref05_Same.l0 : Nat → Int → Int → Int → List Int → List (S48) → Int → Int → List Int → List (S48) → Option (Bool)
 | 0, _, _, _, _, _, _, _, _, _ => none
 | k + 1, x5, x345000, x345001, x345002, x345003, x346000, x346001, x346002, x346003 => if x5 < (x345003.length : Int) then (if 0 ≤ x5 then (if x5 < (x346003.length : Int) then (if (!(((rd_T48 x345003 x5).f0) == ((rd_T48 x346003 x5).f0)) || (!(((rd_T48 x345003 x5).f1) == ((rd_T48 x346003 x5).f1)) || (!((((rd_T48 x345003 x5).f2).toList) == (((rd_T48 x346003 x5).f2).toList)) || (!(((rd_T48 x345003 x5).f3) == ((rd_T48 x346003 x5).f3)) || (!(((rd_T48 x345003 x5).f4) == ((rd_T48 x346003 x5).f4)) || (!((((rd_T48 x345003 x5).f5).toList) == (((rd_T48 x346003 x5).f5).toList)))))))) = true then (some false) else (hucksterref05_Same.l0 k (wrap64 (x5 + 1)) x345000 x345001 x345002 x345003 x346000 x346001 x346002 x346003)) else (none)) else (none)) else (some true)
end
def hucksterref05_Same.f (k : Nat) (a0_0 : Int) (a0_1 : Int) (l0_2 : List Int) (l0_3 : List (S48)) (a1_0 : Int) (a1_1 : Int) (l1_2 : List Int) (l1_3 : List (S48)) : Option (Bool) := if (!(a0_0 == a1_0) || (!(a0_1 == a1_1))) = true then (hucksterref05_Same.j0 k true a0_0 a0_1 l0_2 l0_3 a1_0 a1_1 l1_2 l1_3) else ((hucksterref03_Same.f k l0_2 l1_2).bind fun t346 => (if t346 = true then (hucksterref05_Same.j0 k ((l0_3.length : Int) != (l1_3.length : Int)) a0_0 a0_1 l0_2 l0_3 a1_0 a1_1 l1_2 l1_3) else (hucksterref05_Same.j0 k true a0_0 a0_1 l0_2 l0_3 a1_0 a1_1 l1_2 l1_3)))
set_option maxHeartbeats 8000000 in
set_option maxRecDepth 100000 in
theorem hucksterref05_Same.calls (k : Nat) (a0_0 : Int) (a0_1 : Int) (A0_2 : Option Addr) (c0_2 : Nat) (l0_2 : List Int) (A0_3 : Option Addr) (c0_3 : Nat) (l0_3 : List (S48)) (a1_0 : Int) (a1_1 : Int) (A1_2 : Option Addr) (c1_2 : Nat) (l1_2 : List Int) (A1_3 : Option Addr) (c1_3 : Nat) (l1_3 : List (S48)) (r : Bool) (w : World) (hr0_2 : Kd.C (Kd.int .i64) w A0_2 l0_2.length l0_2) (hc0_2 : l0_2.length ≤ c0_2) (hr0_3 : Kd.C k48 w A0_3 l0_3.length l0_3) (hc0_3 : l0_3.length ≤ c0_3) (hr1_2 : Kd.C (Kd.int .i64) w A1_2 l1_2.length l1_2) (hc1_2 : l1_2.length ≤ c1_2) (hr1_3 : Kd.C k48 w A1_3 l1_3.length l1_3) (hc1_3 : l1_3.length ≤ c1_3) (h : hucksterref05_Same.f k a0_0 a0_1 l0_2 l0_3 a1_0 a1_1 l1_2 l1_3 = some r) :
  Calls Try.prog 15 #[.agg #[.int .i64 a0_0, .int .i64 a0_1, .slice A0_2 l0_2.length c0_2, .slice A0_3 l0_3.length c0_3], .agg #[.int .i64 a1_0, .int .i64 a1_1, .slice A1_2 l1_2.length c1_2, .slice A1_3 l1_3.length c1_3]] w fun e w' => e = .returned (.bool r) ∧ Below w.heap.size w w' := by
 have hu30 := Try.underlying30
 have hu25 := Try.underlying25
 have hu48 := Try.underlying48
 have HR0_2 := Aside0.mk hr0_2
 have HC0_2 := Aside0.mk hc0_2
 clear hr0_2 hc0_2
 have HR0_3 := Aside0.mk hr0_3
 have HC0_3 := Aside0.mk hc0_3
 clear hr0_3 hc0_3
 have HR1_2 := Aside0.mk hr1_2
 have HC1_2 := Aside0.mk hc1_2
 clear hr1_2 hc1_2
 have HR1_3 := Aside0.mk hr1_3
 have HC1_3 := Aside0.mk hc1_3
 clear hr1_3 hc1_3
 have HB := Aside0.mk (Below.refl w.heap.size w)
 have H : (if (!(a0_0 == a1_0) || (!(a0_1 == a1_1))) = true then (hucksterref05_Same.j0 k true a0_0 a0_1 l0_2 l0_3 a1_0 a1_1 l1_2 l1_3) else ((hucksterref03_Same.f k l0_2 l1_2).bind fun t346 => (if t346 = true then (hucksterref05_Same.j0 k ((l0_3.length : Int) != (l1_3.length : Int)) a0_0 a0_1 l0_2 l0_3 a1_0 a1_1 l1_2 l1_3) else (hucksterref05_Same.j0 k true a0_0 a0_1 l0_2 l0_3 a1_0 a1_1 l1_2 l1_3)))) = some r := h
 clear h
 have HC3 := Aside0.mk H
 clear H
 go_enter Try.func15, Try.ntmps15
 go_upto_region 1 with (first | ((with_reducible refine gate_dst (N := 2) rfl ?_); (try (refine gate_guard (by rfl) ?_; dsimp only)); refine box_event ?hg (N := 2) ?hd (cs := #[.int .i64 a0_0, .int .i64 a0_1, .slice A0_2 l0_2.length c0_2, .slice A0_3 l0_3.length c0_3]) (t := 30) ?hr ?_; (case hd => rfl); (case hg => rfl); (case hr => exact z16_13); intro gb344 hg w4 hbox hb; have n0_ := Aside0.mk (below_step z16_0 hb); have n1_ := Aside0.mk (hbox); have n2_ := Aside0.mk ((by rw [hg]; exact (below_size z16_0) : w.heap.size ≤ gb344)); have n3_ := Aside0.mk ((by rw [hg]; exact (below_size z16_0) : w.heap.size ≤ gb344)); clear HB; have HB := n0_; have BK344 := n1_; have GW344 := n2_; have GE344 := n3_; clear n0_ n1_ n2_ n3_; clear hb hbox hg) | ((with_reducible refine gate_dst (N := 3) rfl ?_); (try (refine gate_guard (by rfl) ?_; dsimp only)); refine box_event ?hg (N := 3) ?hd (cs := #[.int .i64 a1_0, .int .i64 a1_1, .slice A1_2 l1_2.length c1_2, .slice A1_3 l1_3.length c1_3]) (t := 30) ?hr ?_; (case hd => rfl); (case hg => rfl); (case hr => exact z16_13); intro gb345 hg w5 hbox hb; have n0_ := Aside0.mk (blk_below (g := gb344) (o := .cells #[.int .i64 a0_0, .int .i64 a0_1, .slice A0_2 l0_2.length c0_2, .slice A0_3 l0_3.length c0_3] 30 (0, 0)) z16_7 hb); have n1_ := Aside0.mk (below_step z16_5 hb); have n2_ := Aside0.mk (hbox); have n3_ := Aside0.mk ((by rw [hg]; exact (below_size z16_5) : w.heap.size ≤ gb345)); have n4_ := Aside0.mk ((by rw [hg]; exact (below_size z16_5) : w.heap.size ≤ gb345)); have n5_ := Aside0.mk ((by rw [hg]; exact Nat.ne_of_lt (blk_lt (g := gb344) (o := .cells #[.int .i64 a0_0, .int .i64 a0_1, .slice A0_2 l0_2.length c0_2, .slice A0_3 l0_3.length c0_3] 30 (0, 0)) z16_7) : gb344 ≠ gb345)); have n6_ := Aside0.mk ((by rw [hg]; exact Nat.ne_of_gt (blk_lt (g := gb344) (o := .cells #[.int .i64 a0_0, .int .i64 a0_1, .slice A0_2 l0_2.length c0_2, .slice A0_3 l0_3.length c0_3] 30 (0, 0)) z16_7) : gb345 ≠ gb344)); clear BK344; clear HB; have BK344 := n0_; have HB := n1_; have BK345 := n2_; have GW345 := n3_; have GE345 := n4_; have NB344_345 := n5_; have NB345_344 := n6_; clear n0_ n1_ n2_ n3_ n4_ n5_ n6_; clear hb hbox hg))
 repeat (go_quiet (first | ((with_reducible refine gate_dst (N := 2) rfl ?_); (try (refine gate_guard (by rfl) ?_; dsimp only)); refine box_event ?hg (N := 2) ?hd (cs := #[.int .i64 a0_0, .int .i64 a0_1, .slice A0_2 l0_2.length c0_2, .slice A0_3 l0_3.length c0_3]) (t := 30) ?hr ?_; (case hd => rfl); (case hg => rfl); (case hr => exact z16_13); intro gb344 hg w4 hbox hb; have n0_ := Aside0.mk (below_step z16_0 hb); have n1_ := Aside0.mk (hbox); have n2_ := Aside0.mk ((by rw [hg]; exact (below_size z16_0) : w.heap.size ≤ gb344)); have n3_ := Aside0.mk ((by rw [hg]; exact (below_size z16_0) : w.heap.size ≤ gb344)); clear HB; have HB := n0_; have BK344 := n1_; have GW344 := n2_; have GE344 := n3_; clear n0_ n1_ n2_ n3_; clear hb hbox hg) | ((with_reducible refine gate_dst (N := 3) rfl ?_); (try (refine gate_guard (by rfl) ?_; dsimp only)); refine box_event ?hg (N := 3) ?hd (cs := #[.int .i64 a1_0, .int .i64 a1_1, .slice A1_2 l1_2.length c1_2, .slice A1_3 l1_3.length c1_3]) (t := 30) ?hr ?_; (case hd => rfl); (case hg => rfl); (case hr => exact z16_13); intro gb345 hg w5 hbox hb; have n0_ := Aside0.mk (blk_below (g := gb344) (o := .cells #[.int .i64 a0_0, .int .i64 a0_1, .slice A0_2 l0_2.length c0_2, .slice A0_3 l0_3.length c0_3] 30 (0, 0)) z16_7 hb); have n1_ := Aside0.mk (below_step z16_5 hb); have n2_ := Aside0.mk (hbox); have n3_ := Aside0.mk ((by rw [hg]; exact (below_size z16_5) : w.heap.size ≤ gb345)); have n4_ := Aside0.mk ((by rw [hg]; exact (below_size z16_5) : w.heap.size ≤ gb345)); have n5_ := Aside0.mk ((by rw [hg]; exact Nat.ne_of_lt (blk_lt (g := gb344) (o := .cells #[.int .i64 a0_0, .int .i64 a0_1, .slice A0_2 l0_2.length c0_2, .slice A0_3 l0_3.length c0_3] 30 (0, 0)) z16_7) : gb344 ≠ gb345)); have n6_ := Aside0.mk ((by rw [hg]; exact Nat.ne_of_gt (blk_lt (g := gb344) (o := .cells #[.int .i64 a0_0, .int .i64 a0_1, .slice A0_2 l0_2.length c0_2, .slice A0_3 l0_3.length c0_3] 30 (0, 0)) z16_7) : gb345 ≠ gb344)); clear BK344; clear HB; have BK344 := n0_; have HB := n1_; have BK345 := n2_; have GW345 := n3_; have GE345 := n4_; have NB344_345 := n5_; have NB345_344 := n6_; clear n0_ n1_ n2_ n3_ n4_ n5_ n6_; clear hb hbox hg)); go_upto_region 1 with (first | ((with_reducible refine gate_dst (N := 2) rfl ?_); (try (refine gate_guard (by rfl) ?_; dsimp only)); refine box_event ?hg (N := 2) ?hd (cs := #[.int .i64 a0_0, .int .i64 a0_1, .slice A0_2 l0_2.length c0_2, .slice A0_3 l0_3.length c0_3]) (t := 30) ?hr ?_; (case hd => rfl); (case hg => rfl); (case hr => exact z16_13); intro gb344 hg w4 hbox hb; have n0_ := Aside0.mk (below_step z16_0 hb); have n1_ := Aside0.mk (hbox); have n2_ := Aside0.mk ((by rw [hg]; exact (below_size z16_0) : w.heap.size ≤ gb344)); have n3_ := Aside0.mk ((by rw [hg]; exact (below_size z16_0) : w.heap.size ≤ gb344)); clear HB; have HB := n0_; have BK344 := n1_; have GW344 := n2_; have GE344 := n3_; clear n0_ n1_ n2_ n3_; clear hb hbox hg) | ((with_reducible refine gate_dst (N := 3) rfl ?_); (try (refine gate_guard (by rfl) ?_; dsimp only)); refine box_event ?hg (N := 3) ?hd (cs := #[.int .i64 a1_0, .int .i64 a1_1, .slice A1_2 l1_2.length c1_2, .slice A1_3 l1_3.length c1_3]) (t := 30) ?hr ?_; (case hd => rfl); (case hg => rfl); (case hr => exact z16_13); intro gb345 hg w5 hbox hb; have n0_ := Aside0.mk (blk_below (g := gb344) (o := .cells #[.int .i64 a0_0, .int .i64 a0_1, .slice A0_2 l0_2.length c0_2, .slice A0_3 l0_3.length c0_3] 30 (0, 0)) z16_7 hb); have n1_ := Aside0.mk (below_step z16_5 hb); have n2_ := Aside0.mk (hbox); have n3_ := Aside0.mk ((by rw [hg]; exact (below_size z16_5) : w.heap.size ≤ gb345)); have n4_ := Aside0.mk ((by rw [hg]; exact (below_size z16_5) : w.heap.size ≤ gb345)); have n5_ := Aside0.mk ((by rw [hg]; exact Nat.ne_of_lt (blk_lt (g := gb344) (o := .cells #[.int .i64 a0_0, .int .i64 a0_1, .slice A0_2 l0_2.length c0_2, .slice A0_3 l0_3.length c0_3] 30 (0, 0)) z16_7) : gb344 ≠ gb345)); have n6_ := Aside0.mk ((by rw [hg]; exact Nat.ne_of_gt (blk_lt (g := gb344) (o := .cells #[.int .i64 a0_0, .int .i64 a0_1, .slice A0_2 l0_2.length c0_2, .slice A0_3 l0_3.length c0_3] 30 (0, 0)) z16_7) : gb345 ≠ gb344)); clear BK344; clear HB; have BK344 := n0_; have HB := n1_; have BK345 := n2_; have GW345 := n3_; have GE345 := n4_; have NB344_345 := n5_; have NB345_344 := n6_; clear n0_ n1_ n2_ n3_ n4_ n5_ n6_; clear hb hbox hg)))
 (try simp only [Act.put, List.setIfInBounds_toArray, List.set_cons_zero, List.set_cons_succ])
 go_cut [27] (fun v27 wc => ∃ (kq : Nat) (x27_2 : Bool), v27 = .bool x27_2 ∧ Aside0 (hucksterref05_Same.j0 kq x27_2 a0_0 a0_1 l0_2 l0_3 a1_0 a1_1 l1_2 l1_3 = some r) ∧ Aside0 (kq ≤ k) ∧ Aside0 (wc.heap[gb344]? = some (.cells #[.int .i64 a0_0, .int .i64 a0_1, (.slice A0_2 l0_2.length c0_2), (.slice A0_3 l0_3.length c0_3)] 30 (0, 0))) ∧ Aside0 (wc.heap[gb345]? = some (.cells #[.int .i64 a1_0, .int .i64 a1_1, (.slice A1_2 l1_2.length c1_2), (.slice A1_3 l1_3.length c1_3)] 30 (0, 0))) ∧ Aside0 (Below w.heap.size w wc))
 case first =>
  have H := HC3.out
  clear HC3
  by_cases c6 : (!(a0_0 == a1_0) || (!(a0_1 == a1_1))) = true
  ·rw [if_pos c6] at H
   have c6b0 : (!(a0_0 == a1_0) || (!(a0_1 == a1_1))) = true := c6
   clear c6
   (first | rw [c6b0] | (simp only [i64_w, i32_w]; rw [c6b0]) | skip)
   have H' := Aside0.mk H
   clear H
   have hnb7 := NB344_345.out
   have hnc7 := NB345_344.out
   have hcz8_0 : w5.cell? ⟨gb344, 0, none⟩ = some (.int .i64 a0_0) := (blk_cell BK344.out 0).trans rfl
   have hcz8_1 : w5.cell? ⟨gb344, 1, none⟩ = some (.int .i64 a0_1) := (blk_cell BK344.out 1).trans rfl
   have hcz8_2 : w5.cell? ⟨gb344, 2, none⟩ = some (.slice A0_2 l0_2.length c0_2) := (blk_cell BK344.out 2).trans rfl
   have hcz8_3 : w5.cell? ⟨gb344, 3, none⟩ = some (.slice A0_3 l0_3.length c0_3) := (blk_cell BK344.out 3).trans rfl
   have hfz8_0 := blk_frozen BK344.out 0
   have hfz8_1 := blk_frozen BK344.out 1
   have hfz8_2 := blk_frozen BK344.out 2
   have hfz8_3 := blk_frozen BK344.out 3
   have hcz9_0 : w5.cell? ⟨gb345, 0, none⟩ = some (.int .i64 a1_0) := (blk_cell BK345.out 0).trans rfl
   have hcz9_1 : w5.cell? ⟨gb345, 1, none⟩ = some (.int .i64 a1_1) := (blk_cell BK345.out 1).trans rfl
   have hcz9_2 : w5.cell? ⟨gb345, 2, none⟩ = some (.slice A1_2 l1_2.length c1_2) := (blk_cell BK345.out 2).trans rfl
   have hcz9_3 : w5.cell? ⟨gb345, 3, none⟩ = some (.slice A1_3 l1_3.length c1_3) := (blk_cell BK345.out 3).trans rfl
   have hfz9_0 := blk_frozen BK345.out 0
   have hfz9_1 := blk_frozen BK345.out 1
   have hfz9_2 := blk_frozen BK345.out 2
   have hfz9_3 := blk_frozen BK345.out 3
   go_wp2
   repeat (go_quiet (fail); try go_wp2)
   go_meet
   case rel => exact ⟨_, (true), z16_44, H', ⟨by first | omega | exact Nat.le_refl _⟩, ⟨by (with_reducible repeat (first | refine blk_drewN ?_ _ | refine blk_drew ?_ | refine blk_alloc ?_ _)); exact BK344.out⟩, ⟨by (with_reducible repeat (first | refine blk_drewN ?_ _ | refine blk_drew ?_ | refine blk_alloc ?_ _)); exact BK345.out⟩, ⟨by repeat (first | (with_reducible first | exact HB.out | apply below_alloc | apply pw_below_drewN | apply below_drew1 | refine below_set ?_ GE344.out | refine below_set ?_ GE345.out) | exact HB.out)⟩⟩
  ·rw [if_neg c6] at H
   have c6b0 : (!(a0_0 == a1_0) || (!(a0_1 == a1_1))) = false := by simpa using c6
   clear c6
   (first | rw [c6b0] | (simp only [i64_w, i32_w]; rw [c6b0]) | skip)
   replace H := Option.bind_eq_some_iff.mp H
   obtain ⟨t346, A100, H⟩ := H
   replace H : (if t346 = true then (hucksterref05_Same.j0 k ((l0_3.length : Int) != (l1_3.length : Int)) a0_0 a0_1 l0_2 l0_3 a1_0 a1_1 l1_2 l1_3) else (hucksterref05_Same.j0 k true a0_0 a0_1 l0_2 l0_3 a1_0 a1_1 l1_2 l1_3)) = some r := H
   have A10 := Aside0.mk A100
   clear A100
   by_cases c11 : t346 = true
   ·subst c11
    have H1 : (hucksterref05_Same.j0 k ((l0_3.length : Int) != (l1_3.length : Int)) a0_0 a0_1 l0_2 l0_3 a1_0 a1_1 l1_2 l1_3) = some r := by rw [if_pos rfl] at H; exact H
    clear H
    have H := H1
    clear H1
    have H' := Aside0.mk H
    clear H
    have hnb12 := NB344_345.out
    have hnc12 := NB345_344.out
    have hcz13_0 : w5.cell? ⟨gb344, 0, none⟩ = some (.int .i64 a0_0) := (blk_cell BK344.out 0).trans rfl
    have hcz13_1 : w5.cell? ⟨gb344, 1, none⟩ = some (.int .i64 a0_1) := (blk_cell BK344.out 1).trans rfl
    have hcz13_2 : w5.cell? ⟨gb344, 2, none⟩ = some (.slice A0_2 l0_2.length c0_2) := (blk_cell BK344.out 2).trans rfl
    have hcz13_3 : w5.cell? ⟨gb344, 3, none⟩ = some (.slice A0_3 l0_3.length c0_3) := (blk_cell BK344.out 3).trans rfl
    have hfz13_0 := blk_frozen BK344.out 0
    have hfz13_1 := blk_frozen BK344.out 1
    have hfz13_2 := blk_frozen BK344.out 2
    have hfz13_3 := blk_frozen BK344.out 3
    have hcz14_0 : w5.cell? ⟨gb345, 0, none⟩ = some (.int .i64 a1_0) := (blk_cell BK345.out 0).trans rfl
    have hcz14_1 : w5.cell? ⟨gb345, 1, none⟩ = some (.int .i64 a1_1) := (blk_cell BK345.out 1).trans rfl
    have hcz14_2 : w5.cell? ⟨gb345, 2, none⟩ = some (.slice A1_2 l1_2.length c1_2) := (blk_cell BK345.out 2).trans rfl
    have hcz14_3 : w5.cell? ⟨gb345, 3, none⟩ = some (.slice A1_3 l1_3.length c1_3) := (blk_cell BK345.out 3).trans rfl
    have hfz14_0 := blk_frozen BK345.out 0
    have hfz14_1 := blk_frozen BK345.out 1
    have hfz14_2 := blk_frozen BK345.out 2
    have hfz14_3 := blk_frozen BK345.out 3
    go_wp2_with (first | (go_at_call 56; (with_reducible refine (hucksterref03_Same.calls k _ _ l0_2 _ _ l1_2 true _ ?side1 ?side2 ?side3 ?side4 A10.out).mono ?_); (case side1 => exact z16_8); (case side2 => exact HC0_2.out); (case side3 => exact z16_9); (case side4 => exact HC1_2.out); rintro e w' ⟨rfl, ⟨nd, rfl⟩⟩; (try first | exact ⟨rfl, _, World.drewN_drewN _ _ _⟩ | exact ⟨rfl, _, Eq.trans (World.drewN_drewN _ _ _) (congrArg (World.drewN _) (Nat.add_assoc _ _ _))⟩)))
    repeat (go_quiet (first | (go_at_call 56; (with_reducible refine (hucksterref03_Same.calls k _ _ l0_2 _ _ l1_2 true _ ?side1 ?side2 ?side3 ?side4 A10.out).mono ?_); (case side1 => exact z16_8); (case side2 => exact HC0_2.out); (case side3 => exact z16_9); (case side4 => exact HC1_2.out); rintro e w' ⟨rfl, ⟨nd, rfl⟩⟩; (try first | exact ⟨rfl, _, World.drewN_drewN _ _ _⟩ | exact ⟨rfl, _, Eq.trans (World.drewN_drewN _ _ _) (congrArg (World.drewN _) (Nat.add_assoc _ _ _))⟩))); try go_wp2_with (first | (go_at_call 56; (with_reducible refine (hucksterref03_Same.calls k _ _ l0_2 _ _ l1_2 true _ ?side1 ?side2 ?side3 ?side4 A10.out).mono ?_); (case side1 => exact z16_8); (case side2 => exact HC0_2.out); (case side3 => exact z16_9); (case side4 => exact HC1_2.out); rintro e w' ⟨rfl, ⟨nd, rfl⟩⟩; (try first | exact ⟨rfl, _, World.drewN_drewN _ _ _⟩ | exact ⟨rfl, _, Eq.trans (World.drewN_drewN _ _ _) (congrArg (World.drewN _) (Nat.add_assoc _ _ _))⟩))))
    go_meet
    case rel => exact ⟨_, (((l0_3.length : Int) != (l1_3.length : Int))), z16_44, H', ⟨by first | omega | exact Nat.le_refl _⟩, ⟨by (with_reducible repeat (first | refine blk_drewN ?_ _ | refine blk_drew ?_ | refine blk_alloc ?_ _)); exact BK344.out⟩, ⟨by (with_reducible repeat (first | refine blk_drewN ?_ _ | refine blk_drew ?_ | refine blk_alloc ?_ _)); exact BK345.out⟩, ⟨by repeat (first | (with_reducible first | exact HB.out | apply below_alloc | apply pw_below_drewN | apply below_drew1 | refine below_set ?_ GE344.out | refine below_set ?_ GE345.out) | exact HB.out)⟩⟩
   ·replace c11 := Bool.eq_false_iff.mpr c11
    subst c11
    have H1 : (hucksterref05_Same.j0 k true a0_0 a0_1 l0_2 l0_3 a1_0 a1_1 l1_2 l1_3) = some r := by rw [if_neg (show ¬ (false = true) by decide)] at H; exact H
    clear H
    have H := H1
    clear H1
    have H' := Aside0.mk H
    clear H
    have hnb15 := NB344_345.out
    have hnc15 := NB345_344.out
    have hcz16_0 : w5.cell? ⟨gb344, 0, none⟩ = some (.int .i64 a0_0) := (blk_cell BK344.out 0).trans rfl
    have hcz16_1 : w5.cell? ⟨gb344, 1, none⟩ = some (.int .i64 a0_1) := (blk_cell BK344.out 1).trans rfl
    have hcz16_2 : w5.cell? ⟨gb344, 2, none⟩ = some (.slice A0_2 l0_2.length c0_2) := (blk_cell BK344.out 2).trans rfl
    have hcz16_3 : w5.cell? ⟨gb344, 3, none⟩ = some (.slice A0_3 l0_3.length c0_3) := (blk_cell BK344.out 3).trans rfl
    have hfz16_0 := blk_frozen BK344.out 0
    have hfz16_1 := blk_frozen BK344.out 1
    have hfz16_2 := blk_frozen BK344.out 2
    have hfz16_3 := blk_frozen BK344.out 3
    have hcz17_0 : w5.cell? ⟨gb345, 0, none⟩ = some (.int .i64 a1_0) := (blk_cell BK345.out 0).trans rfl
    have hcz17_1 : w5.cell? ⟨gb345, 1, none⟩ = some (.int .i64 a1_1) := (blk_cell BK345.out 1).trans rfl
    have hcz17_2 : w5.cell? ⟨gb345, 2, none⟩ = some (.slice A1_2 l1_2.length c1_2) := (blk_cell BK345.out 2).trans rfl
    have hcz17_3 : w5.cell? ⟨gb345, 3, none⟩ = some (.slice A1_3 l1_3.length c1_3) := (blk_cell BK345.out 3).trans rfl
    have hfz17_0 := blk_frozen BK345.out 0
    have hfz17_1 := blk_frozen BK345.out 1
    have hfz17_2 := blk_frozen BK345.out 2
    have hfz17_3 := blk_frozen BK345.out 3
    go_wp2_with (first | (go_at_call 56; (with_reducible refine (hucksterref03_Same.calls k _ _ l0_2 _ _ l1_2 false _ ?side1 ?side2 ?side3 ?side4 A10.out).mono ?_); (case side1 => exact z16_8); (case side2 => exact HC0_2.out); (case side3 => exact z16_9); (case side4 => exact HC1_2.out); rintro e w' ⟨rfl, ⟨nd, rfl⟩⟩; (try first | exact ⟨rfl, _, World.drewN_drewN _ _ _⟩ | exact ⟨rfl, _, Eq.trans (World.drewN_drewN _ _ _) (congrArg (World.drewN _) (Nat.add_assoc _ _ _))⟩)))
    repeat (go_quiet (first | (go_at_call 56; (with_reducible refine (hucksterref03_Same.calls k _ _ l0_2 _ _ l1_2 false _ ?side1 ?side2 ?side3 ?side4 A10.out).mono ?_); (case side1 => exact z16_8); (case side2 => exact HC0_2.out); (case side3 => exact z16_9); (case side4 => exact HC1_2.out); rintro e w' ⟨rfl, ⟨nd, rfl⟩⟩; (try first | exact ⟨rfl, _, World.drewN_drewN _ _ _⟩ | exact ⟨rfl, _, Eq.trans (World.drewN_drewN _ _ _) (congrArg (World.drewN _) (Nat.add_assoc _ _ _))⟩))); try go_wp2_with (first | (go_at_call 56; (with_reducible refine (hucksterref03_Same.calls k _ _ l0_2 _ _ l1_2 false _ ?side1 ?side2 ?side3 ?side4 A10.out).mono ?_); (case side1 => exact z16_8); (case side2 => exact HC0_2.out); (case side3 => exact z16_9); (case side4 => exact HC1_2.out); rintro e w' ⟨rfl, ⟨nd, rfl⟩⟩; (try first | exact ⟨rfl, _, World.drewN_drewN _ _ _⟩ | exact ⟨rfl, _, Eq.trans (World.drewN_drewN _ _ _) (congrArg (World.drewN _) (Nat.add_assoc _ _ _))⟩))))
    go_meet
    case rel => exact ⟨_, (true), z16_44, H', ⟨by first | omega | exact Nat.le_refl _⟩, ⟨by (with_reducible repeat (first | refine blk_drewN ?_ _ | refine blk_drew ?_ | refine blk_alloc ?_ _)); exact BK344.out⟩, ⟨by (with_reducible repeat (first | refine blk_drewN ?_ _ | refine blk_drew ?_ | refine blk_alloc ?_ _)); exact BK345.out⟩, ⟨by repeat (first | (with_reducible first | exact HB.out | apply below_alloc | apply pw_below_drewN | apply below_drew1 | refine below_set ?_ GE344.out | refine below_set ?_ GE345.out) | exact HB.out)⟩⟩
 case rest =>
  clear HC3
  try clear c1
  try clear p2
  try clear c6
  try clear c6b0
  try clear c7
  try clear c11
  try clear c12
  try clear c15
  try clear hcz13_0
  try clear hcz13_1
  try clear hcz13_2
  try clear hcz13_3
  try clear hcz14_0
  try clear hcz14_1
  try clear hcz14_2
  try clear hcz14_3
  try clear hcz16_0
  try clear hcz16_1
  try clear hcz16_2
  try clear hcz16_3
  try clear hcz17_0
  try clear hcz17_1
  try clear hcz17_2
  try clear hcz17_3
  try clear hcz8_0
  try clear hcz8_1
  try clear hcz8_2
  try clear hcz8_3
  try clear hcz9_0
  try clear hcz9_1
  try clear hcz9_2
  try clear hcz9_3
  try clear hfz13_0
  try clear hfz13_1
  try clear hfz13_2
  try clear hfz13_3
  try clear hfz14_0
  try clear hfz14_1
  try clear hfz14_2
  try clear hfz14_3
  try clear hfz16_0
  try clear hfz16_1
  try clear hfz16_2
  try clear hfz16_3
  try clear hfz17_0
  try clear hfz17_1
  try clear hfz17_2
  try clear hfz17_3
  try clear hfz8_0
  try clear hfz8_1
  try clear hfz8_2
  try clear hfz8_3
  try clear hfz9_0
  try clear hfz9_1
  try clear hfz9_2
  try clear hfz9_3
  obtain ⟨kq, x27_2, rfl, HA, HJ2, BK344, BK345, HB⟩ := hcut
  cases kq with
  | zero => exact absurd HA.out (by simp [hucksterref05_Same.j0])
  | succ kj2 =>
   have H := HA.out
   clear HA
   simp only [hucksterref05_Same.j0] at H
   by_cases c18 : x27_2 = true
   ·subst c18
    have H1 : (some false) = some r := by rw [if_pos rfl] at H; exact H
    clear H
    have H := H1
    clear H1
    obtain rfl := Option.some.inj H
    go_wp2
    repeat (go_quiet (fail); try go_wp2)
    go_ret
    exact ⟨by first | rfl | (simp [errW_none, errW_some] <;> rfl) | (simp [*, errW_none, errW_some] <;> rfl), by repeat (first | (with_reducible first | exact HB.out | apply below_alloc | apply pw_below_drewN | apply below_drew1 | refine below_set ?_ GE344.out | refine below_set ?_ GE345.out) | exact HB.out)⟩
   ·replace c18 := Bool.eq_false_iff.mpr c18
    subst c18
    have H1 : (hucksterref05_Same.l0 kj2 0 a0_0 a0_1 l0_2 l0_3 a1_0 a1_1 l1_2 l1_3) = some r := by rw [if_neg (show ¬ (false = true) by decide)] at H; exact H
    clear H
    have H := H1
    clear H1
    have H' := Aside0.mk H
    clear H
    go_wp2
    repeat (go_quiet (fail); try go_wp2)
    go_loopg [5] kj2 (fun kq v5 w' => ∃ (x5_2 : Int), v5 = .int .i64 x5_2 ∧ Aside0 (hucksterref05_Same.l0 kq x5_2 a0_0 a0_1 l0_2 l0_3 a1_0 a1_1 l1_2 l1_3 = some r) ∧ Aside0 (kq ≤ kj2) ∧ Aside0 (w'.heap[gb344]? = some (.cells #[.int .i64 a0_0, .int .i64 a0_1, (.slice A0_2 l0_2.length c0_2), (.slice A0_3 l0_3.length c0_3)] 30 (0, 0))) ∧ Aside0 (w'.heap[gb345]? = some (.cells #[.int .i64 a1_0, .int .i64 a1_1, (.slice A1_2 l1_2.length c1_2), (.slice A1_3 l1_3.length c1_3)] 30 (0, 0))) ∧ Aside0 (Below w.heap.size w w'))
    case atStart => exact ⟨(0), z16_44, H', ⟨Nat.le_refl _⟩, ⟨by (with_reducible repeat (first | refine blk_drewN ?_ _ | refine blk_drew ?_ | refine blk_alloc ?_ _)); exact BK344.out⟩, ⟨by (with_reducible repeat (first | refine blk_drewN ?_ _ | refine blk_drew ?_ | refine blk_alloc ?_ _)); exact BK345.out⟩, ⟨by repeat (first | (with_reducible first | exact HB.out | apply below_alloc | apply pw_below_drewN | apply below_drew1 | refine below_set ?_ GE344.out | refine below_set ?_ GE345.out) | exact HB.out)⟩⟩
    case round =>
     clear H'
     try clear c1
     try clear p2
     try clear c6
     try clear c6b0
     try clear c7
     try clear c11
     try clear c12
     try clear c15
     try clear c18
     try clear hcz13_0
     try clear hcz13_1
     try clear hcz13_2
     try clear hcz13_3
     try clear hcz14_0
     try clear hcz14_1
     try clear hcz14_2
     try clear hcz14_3
     try clear hcz16_0
     try clear hcz16_1
     try clear hcz16_2
     try clear hcz16_3
     try clear hcz17_0
     try clear hcz17_1
     try clear hcz17_2
     try clear hcz17_3
     try clear hcz8_0
     try clear hcz8_1
     try clear hcz8_2
     try clear hcz8_3
     try clear hcz9_0
     try clear hcz9_1
     try clear hcz9_2
     try clear hcz9_3
     try clear hfz13_0
     try clear hfz13_1
     try clear hfz13_2
     try clear hfz13_3
     try clear hfz14_0
     try clear hfz14_1
     try clear hfz14_2
     try clear hfz14_3
     try clear hfz16_0
     try clear hfz16_1
     try clear hfz16_2
     try clear hfz16_3
     try clear hfz17_0
     try clear hfz17_1
     try clear hfz17_2
     try clear hfz17_3
     try clear hfz8_0
     try clear hfz8_1
     try clear hfz8_2
     try clear hfz8_3
     try clear hfz9_0
     try clear hfz9_1
     try clear hfz9_2
     try clear hfz9_3
     try clear p2
     obtain ⟨x5_2, rfl, HA, HK2, BK344, BK345, HB⟩ := hrel
     cases gk with
     | zero => exact absurd HA.out (by simp [hucksterref05_Same.l0])
     | succ k2 =>
      have H := HA.out
      clear HA
      simp only [hucksterref05_Same.l0] at H
      by_cases c19 : x5_2 < (l0_3.length : Int)
      ·rw [if_pos c19] at H
       have c19b0 : decide (x5_2 < (l0_3.length : Int)) = true := decide_eq_true c19
       clear c19
       by_cases c20 : 0 ≤ x5_2
       ·rw [if_pos c20] at H
        have c20b0 : decide (0 ≤ x5_2) = true := decide_eq_true c20
        clear c20
        by_cases c21 : x5_2 < (l1_3.length : Int)
        ·rw [if_pos c21] at H
         have c21b0 : decide (x5_2 < (l1_3.length : Int)) = true := decide_eq_true c21
         clear c21
         by_cases c22 : (!(((rd_T48 l0_3 x5_2).f0) == ((rd_T48 l1_3 x5_2).f0)) || (!(((rd_T48 l0_3 x5_2).f1) == ((rd_T48 l1_3 x5_2).f1)) || (!((((rd_T48 l0_3 x5_2).f2).toList) == (((rd_T48 l1_3 x5_2).f2).toList)) || (!(((rd_T48 l0_3 x5_2).f3) == ((rd_T48 l1_3 x5_2).f3)) || (!(((rd_T48 l0_3 x5_2).f4) == ((rd_T48 l1_3 x5_2).f4)) || (!((((rd_T48 l0_3 x5_2).f5).toList) == (((rd_T48 l1_3 x5_2).f5).toList)))))))) = true
         ·rw [if_pos c22] at H
          have c22b0 : (!(((rd_T48 l0_3 x5_2).f0) == ((rd_T48 l1_3 x5_2).f0)) || (!(((rd_T48 l0_3 x5_2).f1) == ((rd_T48 l1_3 x5_2).f1)) || (!((((rd_T48 l0_3 x5_2).f2).toList) == (((rd_T48 l1_3 x5_2).f2).toList)) || (!(((rd_T48 l0_3 x5_2).f3) == ((rd_T48 l1_3 x5_2).f3)) || (!(((rd_T48 l0_3 x5_2).f4) == ((rd_T48 l1_3 x5_2).f4)) || (!((((rd_T48 l0_3 x5_2).f5).toList) == (((rd_T48 l1_3 x5_2).f5).toList)))))))) = true := c22
          clear c22
          obtain rfl := Option.some.inj H
          have hnb23 := NB344_345.out
          have hnc23 := NB345_344.out
          have hcz24_0 : wr.cell? ⟨gb344, 0, none⟩ = some (.int .i64 a0_0) := (blk_cell BK344.out 0).trans rfl
          have hcz24_1 : wr.cell? ⟨gb344, 1, none⟩ = some (.int .i64 a0_1) := (blk_cell BK344.out 1).trans rfl
          have hcz24_2 : wr.cell? ⟨gb344, 2, none⟩ = some (.slice A0_2 l0_2.length c0_2) := (blk_cell BK344.out 2).trans rfl
          have hcz24_3 : wr.cell? ⟨gb344, 3, none⟩ = some (.slice A0_3 l0_3.length c0_3) := (blk_cell BK344.out 3).trans rfl
          have hfz24_0 := blk_frozen BK344.out 0
          have hfz24_1 := blk_frozen BK344.out 1
          have hfz24_2 := blk_frozen BK344.out 2
          have hfz24_3 := blk_frozen BK344.out 3
          have p347 : 0 ≤ (x5_2 : Int) := of_decide_eq_true z16_43
          have q347 : x5_2 < (l0_3.length : Int) := of_decide_eq_true z16_43
          obtain ⟨ad347, e347, hx347_0, hx347_1, hx347_2, hx347_3, hx347_4, hx347_5⟩ := at_T48 HR0_3.out x5_2 p347 q347
          cases e347
          replace hx347_0 := (HB.out.cell (World.block_lt_of_cell? w _ hx347_0)).trans hx347_0
          replace hx347_1 := (HB.out.cell (World.block_lt_of_cell? w _ hx347_1)).trans hx347_1
          replace hx347_2 := (HB.out.cell (World.block_lt_of_cell? w _ hx347_2)).trans hx347_2
          replace hx347_3 := (HB.out.cell (World.block_lt_of_cell? w _ hx347_3)).trans hx347_3
          replace hx347_4 := (HB.out.cell (World.block_lt_of_cell? w _ hx347_4)).trans hx347_4
          replace hx347_5 := (HB.out.cell (World.block_lt_of_cell? w _ hx347_5)).trans hx347_5
          replace p347 := eq_true p347
          replace q347 := eq_true q347
          have hcz25_0 : wr.cell? ⟨gb345, 0, none⟩ = some (.int .i64 a1_0) := (blk_cell BK345.out 0).trans rfl
          have hcz25_1 : wr.cell? ⟨gb345, 1, none⟩ = some (.int .i64 a1_1) := (blk_cell BK345.out 1).trans rfl
          have hcz25_2 : wr.cell? ⟨gb345, 2, none⟩ = some (.slice A1_2 l1_2.length c1_2) := (blk_cell BK345.out 2).trans rfl
          have hcz25_3 : wr.cell? ⟨gb345, 3, none⟩ = some (.slice A1_3 l1_3.length c1_3) := (blk_cell BK345.out 3).trans rfl
          have hfz25_0 := blk_frozen BK345.out 0
          have hfz25_1 := blk_frozen BK345.out 1
          have hfz25_2 := blk_frozen BK345.out 2
          have hfz25_3 := blk_frozen BK345.out 3
          have p348 : 0 ≤ (x5_2 : Int) := of_decide_eq_true z16_43
          have q348 : x5_2 < (l1_3.length : Int) := of_decide_eq_true z16_43
          obtain ⟨ad348, e348, hx348_0, hx348_1, hx348_2, hx348_3, hx348_4, hx348_5⟩ := at_T48 HR1_3.out x5_2 p348 q348
          cases e348
          replace hx348_0 := (HB.out.cell (World.block_lt_of_cell? w _ hx348_0)).trans hx348_0
          replace hx348_1 := (HB.out.cell (World.block_lt_of_cell? w _ hx348_1)).trans hx348_1
          replace hx348_2 := (HB.out.cell (World.block_lt_of_cell? w _ hx348_2)).trans hx348_2
          replace hx348_3 := (HB.out.cell (World.block_lt_of_cell? w _ hx348_3)).trans hx348_3
          replace hx348_4 := (HB.out.cell (World.block_lt_of_cell? w _ hx348_4)).trans hx348_4
          replace hx348_5 := (HB.out.cell (World.block_lt_of_cell? w _ hx348_5)).trans hx348_5
          replace p348 := eq_true p348
          replace q348 := eq_true q348
          go_wp2
          repeat (go_quiet (fail); try go_wp2)
          go_ret
          exact ⟨by first | rfl | (simp [errW_none, errW_some] <;> rfl) | (simp [*, errW_none, errW_some] <;> rfl), by repeat (first | (with_reducible first | exact HB.out | apply below_alloc | apply pw_below_drewN | apply below_drew1 | refine below_set ?_ GE344.out | refine below_set ?_ GE345.out) | exact HB.out)⟩
         ·rw [if_neg c22] at H
          have c22b0 : (!(((rd_T48 l0_3 x5_2).f0) == ((rd_T48 l1_3 x5_2).f0)) || (!(((rd_T48 l0_3 x5_2).f1) == ((rd_T48 l1_3 x5_2).f1)) || (!((((rd_T48 l0_3 x5_2).f2).toList) == (((rd_T48 l1_3 x5_2).f2).toList)) || (!(((rd_T48 l0_3 x5_2).f3) == ((rd_T48 l1_3 x5_2).f3)) || (!(((rd_T48 l0_3 x5_2).f4) == ((rd_T48 l1_3 x5_2).f4)) || (!((((rd_T48 l0_3 x5_2).f5).toList) == (((rd_T48 l1_3 x5_2).f5).toList)))))))) = false := by simpa using c22
          clear c22
          have H' := Aside0.mk H
          clear H
          have hnb26 := NB344_345.out
          have hnc26 := NB345_344.out
          have hcz27_0 : wr.cell? ⟨gb344, 0, none⟩ = some (.int .i64 a0_0) := (blk_cell BK344.out 0).trans rfl
          have hcz27_1 : wr.cell? ⟨gb344, 1, none⟩ = some (.int .i64 a0_1) := (blk_cell BK344.out 1).trans rfl
          have hcz27_2 : wr.cell? ⟨gb344, 2, none⟩ = some (.slice A0_2 l0_2.length c0_2) := (blk_cell BK344.out 2).trans rfl
          have hcz27_3 : wr.cell? ⟨gb344, 3, none⟩ = some (.slice A0_3 l0_3.length c0_3) := (blk_cell BK344.out 3).trans rfl
          have hfz27_0 := blk_frozen BK344.out 0
          have hfz27_1 := blk_frozen BK344.out 1
          have hfz27_2 := blk_frozen BK344.out 2
          have hfz27_3 := blk_frozen BK344.out 3
          have p347 : 0 ≤ (x5_2 : Int) := of_decide_eq_true z16_43
          have q347 : x5_2 < (l0_3.length : Int) := of_decide_eq_true z16_43
          obtain ⟨ad347, e347, hx347_0, hx347_1, hx347_2, hx347_3, hx347_4, hx347_5⟩ := at_T48 HR0_3.out x5_2 p347 q347
          cases e347
          replace hx347_0 := (HB.out.cell (World.block_lt_of_cell? w _ hx347_0)).trans hx347_0
          replace hx347_1 := (HB.out.cell (World.block_lt_of_cell? w _ hx347_1)).trans hx347_1
          replace hx347_2 := (HB.out.cell (World.block_lt_of_cell? w _ hx347_2)).trans hx347_2
          replace hx347_3 := (HB.out.cell (World.block_lt_of_cell? w _ hx347_3)).trans hx347_3
          replace hx347_4 := (HB.out.cell (World.block_lt_of_cell? w _ hx347_4)).trans hx347_4
          replace hx347_5 := (HB.out.cell (World.block_lt_of_cell? w _ hx347_5)).trans hx347_5
          replace p347 := eq_true p347
          replace q347 := eq_true q347
          have hcz28_0 : wr.cell? ⟨gb345, 0, none⟩ = some (.int .i64 a1_0) := (blk_cell BK345.out 0).trans rfl
          have hcz28_1 : wr.cell? ⟨gb345, 1, none⟩ = some (.int .i64 a1_1) := (blk_cell BK345.out 1).trans rfl
          have hcz28_2 : wr.cell? ⟨gb345, 2, none⟩ = some (.slice A1_2 l1_2.length c1_2) := (blk_cell BK345.out 2).trans rfl
          have hcz28_3 : wr.cell? ⟨gb345, 3, none⟩ = some (.slice A1_3 l1_3.length c1_3) := (blk_cell BK345.out 3).trans rfl
          have hfz28_0 := blk_frozen BK345.out 0
          have hfz28_1 := blk_frozen BK345.out 1
          have hfz28_2 := blk_frozen BK345.out 2
          have hfz28_3 := blk_frozen BK345.out 3
          have p348 : 0 ≤ (x5_2 : Int) := of_decide_eq_true z16_43
          have q348 : x5_2 < (l1_3.length : Int) := of_decide_eq_true z16_43
          obtain ⟨ad348, e348, hx348_0, hx348_1, hx348_2, hx348_3, hx348_4, hx348_5⟩ := at_T48 HR1_3.out x5_2 p348 q348
          cases e348
          replace hx348_0 := (HB.out.cell (World.block_lt_of_cell? w _ hx348_0)).trans hx348_0
          replace hx348_1 := (HB.out.cell (World.block_lt_of_cell? w _ hx348_1)).trans hx348_1
          replace hx348_2 := (HB.out.cell (World.block_lt_of_cell? w _ hx348_2)).trans hx348_2
          replace hx348_3 := (HB.out.cell (World.block_lt_of_cell? w _ hx348_3)).trans hx348_3
          replace hx348_4 := (HB.out.cell (World.block_lt_of_cell? w _ hx348_4)).trans hx348_4
          replace hx348_5 := (HB.out.cell (World.block_lt_of_cell? w _ hx348_5)).trans hx348_5
          replace p348 := eq_true p348
          replace q348 := eq_true q348
          go_wp2
          repeat (go_quiet (fail); try go_wp2)
          go_roundg k2
          case measure => have := HJ2.out; have := HK2.out; omega
          case rel => exact ⟨(wrap64 (x5_2 + 1)), z16_44, H', ⟨by have := HJ2.out; have := HK2.out; omega⟩, ⟨by (with_reducible repeat (first | refine blk_drewN ?_ _ | refine blk_drew ?_ | refine blk_alloc ?_ _)); exact BK344.out⟩, ⟨by (with_reducible repeat (first | refine blk_drewN ?_ _ | refine blk_drew ?_ | refine blk_alloc ?_ _)); exact BK345.out⟩, ⟨by repeat (first | (with_reducible first | exact HB.out | apply below_alloc | apply pw_below_drewN | apply below_drew1 | refine below_set ?_ GE344.out | refine below_set ?_ GE345.out) | exact HB.out)⟩⟩
        ·rw [if_neg c21] at H
         exact absurd H (by simp)
       ·rw [if_neg c20] at H
        exact absurd H (by simp)
      ·rw [if_neg c19] at H
       have c19b0 : decide (x5_2 < (l0_3.length : Int)) = false := decide_eq_false c19
       clear c19
       obtain rfl := Option.some.inj H
       have hnb29 := NB344_345.out
       have hnc29 := NB345_344.out
       have hcz30_0 : wr.cell? ⟨gb344, 0, none⟩ = some (.int .i64 a0_0) := (blk_cell BK344.out 0).trans rfl
       have hcz30_1 : wr.cell? ⟨gb344, 1, none⟩ = some (.int .i64 a0_1) := (blk_cell BK344.out 1).trans rfl
       have hcz30_2 : wr.cell? ⟨gb344, 2, none⟩ = some (.slice A0_2 l0_2.length c0_2) := (blk_cell BK344.out 2).trans rfl
       have hcz30_3 : wr.cell? ⟨gb344, 3, none⟩ = some (.slice A0_3 l0_3.length c0_3) := (blk_cell BK344.out 3).trans rfl
       have hfz30_0 := blk_frozen BK344.out 0
       have hfz30_1 := blk_frozen BK344.out 1
       have hfz30_2 := blk_frozen BK344.out 2
       have hfz30_3 := blk_frozen BK344.out 3
       go_wp2
       repeat (go_quiet (fail); try go_wp2)
       go_ret
       exact ⟨by first | rfl | (simp [errW_none, errW_some] <;> rfl) | (simp [*, errW_none, errW_some] <;> rfl), by repeat (first | (with_reducible first | exact HB.out | apply below_alloc | apply pw_below_drewN | apply below_drew1 | refine below_set ?_ GE344.out | refine below_set ?_ GE345.out) | exact HB.out)⟩
def hucksterlaw05_EventGets.f (k : Nat) (l0 : List Int) : Option (Bool) := if (l0.length : Int) > 3000 then ((hucksterlaw05_awake.f k).bind fun t349 => (some t349)) else ((some (([] : List Int) : List Int)).bind fun y350 => (if y350.length + l0.length < 140737488355328 then ((event_Get.f k (y350 ++ l0)).bind fun bt356 => ((hucksterref05_Get.f k l0).bind fun bt366 => ((hucksterref05_Same.f k bt356.1 bt356.2.1 bt356.2.2.1 bt356.2.2.2.1 bt366.1 bt366.2.1 bt366.2.2.1 bt366.2.2.2.1).bind fun t376 => (if t376 = true then (if ((bt356.2.2.2.2 == 0) == bt366.2.2.2.2) = true then (if ((bt356.2.2.2.2 == 2) == (!bt366.2.2.2.2)) = true then ((hucksterlaw05_awake.f k).bind fun t377 => (some t377)) else (some false)) else (some false)) else (some false))))) else (none)))
set_option maxHeartbeats 8000000 in
set_option maxRecDepth 100000 in
theorem hucksterlaw05_EventGets.calls (k : Nat) (A0 : Option Addr) (c0 : Nat) (l0 : List Int) (r : Bool) (w : World) (hr0 : Kd.C (Kd.int .u8) w A0 l0.length l0) (hc0 : l0.length ≤ c0) (h : hucksterlaw05_EventGets.f k l0 = some r) :
  Calls Try.prog 3 #[.slice A0 l0.length c0] w fun e w' => e = .returned (.bool r) ∧ Below w.heap.size w w' := by
 have hu30 := Try.underlying30
 have HR0 := Aside0.mk hr0
 have HC0 := Aside0.mk hc0
 clear hr0 hc0
 have HB := Aside0.mk (Below.refl w.heap.size w)
 have H : (if (l0.length : Int) > 3000 then ((hucksterlaw05_awake.f k).bind fun t349 => (some t349)) else ((some (([] : List Int) : List Int)).bind fun y350 => (if y350.length + l0.length < 140737488355328 then ((event_Get.f k (y350 ++ l0)).bind fun bt356 => ((hucksterref05_Get.f k l0).bind fun bt366 => ((hucksterref05_Same.f k bt356.1 bt356.2.1 bt356.2.2.1 bt356.2.2.2.1 bt366.1 bt366.2.1 bt366.2.2.1 bt366.2.2.2.1).bind fun t376 => (if t376 = true then (if ((bt356.2.2.2.2 == 0) == bt366.2.2.2.2) = true then (if ((bt356.2.2.2.2 == 2) == (!bt366.2.2.2.2)) = true then ((hucksterlaw05_awake.f k).bind fun t377 => (some t377)) else (some false)) else (some false)) else (some false))))) else (none)))) = some r := h
 clear h
 by_cases c2 : (l0.length : Int) > 3000
 ·rw [if_pos c2] at H
  have c2b0 : decide (3000 < (l0.length : Int)) = true := decide_eq_true c2
  have c2b1 : decide (3000 < l0.length) = true := decide_eq_true (by omega)
  clear c2
  replace H := Option.bind_eq_some_iff.mp H
  obtain ⟨t349, A30, H⟩ := H
  replace H : (some t349) = some r := H
  have A3 := Aside0.mk A30
  clear A30
  obtain rfl := Option.some.inj H
  go_enter Try.func3, Try.ntmps3
  go_wp2_with (first | ((with_reducible refine gate_callee (f := 12) rfl ?_); refine goesL_ (some 10) rfl rfl Try.func12 (by kernel_rfl) rfl #[] rfl z16_3 ?_; (with_reducible refine (hucksterlaw05_awake.calls k  t349 _ A3.out).mono ?_); rintro e w4 ⟨rfl, hb⟩; refine ⟨_, rfl, ?_⟩; have n0_ := Aside0.mk (below_step z16_0 hb); clear HB; have HB := n0_; clear n0_; (try clear hb); (try clear hb2); (try clear hk); (try clear hi)))
  go_ret
  exact ⟨by first | rfl | (simp [errW_none, errW_some] <;> rfl) | (simp [*, errW_none, errW_some] <;> rfl), by repeat (first | (with_reducible first | exact HB.out | apply below_alloc | apply pw_below_drewN | apply below_drew1) | exact HB.out)⟩
 ·rw [if_neg c2] at H
  have c2b0 : decide (3000 < (l0.length : Int)) = false := decide_eq_false c2
  have c2b1 : decide (3000 < l0.length) = false := decide_eq_false (by omega)
  clear c2
  obtain ⟨y350, hy350⟩ : ∃ y_ : List Int, y_ = (([] : List Int)) := ⟨_, rfl⟩
  replace H : (if y350.length + l0.length < 140737488355328 then ((event_Get.f k (y350 ++ l0)).bind fun bt356 => ((hucksterref05_Get.f k l0).bind fun bt366 => ((hucksterref05_Same.f k bt356.1 bt356.2.1 bt356.2.2.1 bt356.2.2.2.1 bt366.1 bt366.2.1 bt366.2.2.1 bt366.2.2.2.1).bind fun t376 => (if t376 = true then (if ((bt356.2.2.2.2 == 0) == bt366.2.2.2.2) = true then (if ((bt356.2.2.2.2 == 2) == (!bt366.2.2.2.2)) = true then ((hucksterlaw05_awake.f k).bind fun t377 => (some t377)) else (some false)) else (some false)) else (some false))))) else (none)) = some r := by first | (rw [hy350]; with_reducible exact H) | (have H2_ := (Option.bind_some _ _).symm.trans H; rw [hy350]; with_reducible exact H2_) | (have H2_ := (Option.bind_some _ _).symm.trans H; with_reducible exact H2_) | with_reducible exact H | (rw [hy350]; exact H) | exact H
  have Ny350 := Aside0.mk hy350
  clear hy350
  by_cases c5 : y350.length + l0.length < 140737488355328
  ·rw [if_pos c5] at H
   have LMc5 := Aside0.mk c5
   clear c5
   obtain ⟨y353, hy353⟩ : ∃ y_ : List Int, y_ = (y350 ++ l0) := ⟨_, rfl⟩
   replace H : ((event_Get.f k y353).bind fun bt356 => ((hucksterref05_Get.f k l0).bind fun bt366 => ((hucksterref05_Same.f k bt356.1 bt356.2.1 bt356.2.2.1 bt356.2.2.2.1 bt366.1 bt366.2.1 bt366.2.2.1 bt366.2.2.2.1).bind fun t376 => (if t376 = true then (if ((bt356.2.2.2.2 == 0) == bt366.2.2.2.2) = true then (if ((bt356.2.2.2.2 == 2) == (!bt366.2.2.2.2)) = true then ((hucksterlaw05_awake.f k).bind fun t377 => (some t377)) else (some false)) else (some false)) else (some false))))) = some r := by first | (rw [hy353]; with_reducible exact H) | (have H2_ := (Option.bind_some _ _).symm.trans H; rw [hy353]; with_reducible exact H2_) | (have H2_ := (Option.bind_some _ _).symm.trans H; with_reducible exact H2_) | with_reducible exact H | (rw [hy353]; exact H) | exact H
   have Ny353 := Aside0.mk hy353
   clear hy353
   replace H := Option.bind_eq_some_iff.mp H
   obtain ⟨⟨t356, t357, t358, t361, t364⟩, A60, H⟩ := H
   replace H : ((hucksterref05_Get.f k l0).bind fun bt366 => ((hucksterref05_Same.f k t356 t357 t358 t361 bt366.1 bt366.2.1 bt366.2.2.1 bt366.2.2.2.1).bind fun t376 => (if t376 = true then (if ((t364 == 0) == bt366.2.2.2.2) = true then (if ((t364 == 2) == (!bt366.2.2.2.2)) = true then ((hucksterlaw05_awake.f k).bind fun t377 => (some t377)) else (some false)) else (some false)) else (some false)))) = some r := H
   have A6 := Aside0.mk A60
   clear A60
   replace H := Option.bind_eq_some_iff.mp H
   obtain ⟨⟨t366, t367, t368, t371, t374⟩, A70, H⟩ := H
   replace H : ((hucksterref05_Same.f k t356 t357 t358 t361 t366 t367 t368 t371).bind fun t376 => (if t376 = true then (if ((t364 == 0) == t374) = true then (if ((t364 == 2) == (!t374)) = true then ((hucksterlaw05_awake.f k).bind fun t377 => (some t377)) else (some false)) else (some false)) else (some false))) = some r := H
   have A7 := Aside0.mk A70
   clear A70
   replace H := Option.bind_eq_some_iff.mp H
   obtain ⟨t376, A80, H⟩ := H
   replace H : (if t376 = true then (if ((t364 == 0) == t374) = true then (if ((t364 == 2) == (!t374)) = true then ((hucksterlaw05_awake.f k).bind fun t377 => (some t377)) else (some false)) else (some false)) else (some false)) = some r := H
   have A8 := Aside0.mk A80
   clear A80
   by_cases c9 : t376 = true
   ·subst c9
    have H1 : (if ((t364 == 0) == t374) = true then (if ((t364 == 2) == (!t374)) = true then ((hucksterlaw05_awake.f k).bind fun t377 => (some t377)) else (some false)) else (some false)) = some r := by rw [if_pos rfl] at H; exact H
    clear H
    have H := H1
    clear H1
    by_cases c10 : ((t364 == 0) == t374) = true
    ·rw [if_pos c10] at H
     have c10b0 : ((t364 == 0) == t374) = true := c10
     (try (have c10b1 : decide ((t364 == 0) = t374) = true := by simpa using c10))
     (try (have c10b2 : ((t364 == 0) == t374) = true := by simpa using c10))
     clear c10
     by_cases c11 : ((t364 == 2) == (!t374)) = true
     ·rw [if_pos c11] at H
      have c11b0 : ((t364 == 2) == (!t374)) = true := c11
      (try (have c11b1 : decide ((t364 == 2) = (!t374)) = true := by simpa using c11))
      (try (have c11b2 : ((t364 == 2) == (!t374)) = true := by simpa using c11))
      clear c11
      replace H := Option.bind_eq_some_iff.mp H
      obtain ⟨t377, A120, H⟩ := H
      replace H : (some t377) = some r := H
      have A12 := Aside0.mk A120
      clear A120
      obtain rfl := Option.some.inj H
      go_enter Try.func3, Try.ntmps3
      go_wp2_with (first | ((with_reducible refine gate_dst (N := 12) rfl ?_); refine Kd.R_lit (Kd.int .u8) _ 5 ?hg (N := 12) ?hd (xs := ([] : List Int)) (inner := []) (ok := fun _ => True) (okp := fun _ => True) ?hr ?hp (fun _ hk => hk) trivial (Below.refl _ _) (Nat.le_refl _) (by simp) ?_; (case hd => rfl); (case hg => rfl); (case hr => exact z16_13); (case hp => exact (Reps.none _ _)); intro v351 w13 ho14 hb hg_ hnew_; clear hg_ hnew_; (first | rw [← Ny350.out] at ho14 | (simp only [Int.reduceToNat] at ho14; rw [← Ny350.out] at ho14)); have n0_ := Aside0.mk (Kd.R_lower ho14 (below_size z16_0)); have n1_ := Aside0.mk (below_step z16_0 hb); clear HB; have HO352 := n0_; have HB := n1_; clear n0_ n1_; clear hb ho14) | ((with_reducible refine gate_builtin (b := .append) (xs := #[.tmp 12, .tmp 13]) rfl ?_); at_builtin; refine Kd.R_append_rows (Kd.int .u8) (w0 := w) w.heap.size rfl (.tmp 12) (.tmp 13) 22 5 (.int .u8 0) 1 rfl Try.underlying22 info5 rfl (by decide) (by omega) v351 y350 l0 _ _ _ (fun _ => True) (fun _ => False) rfl rfl ?aO ?aR (fun _ _ h => h) (fun _ h => h.elim) ?aF ?aB ?aS ?aL ?_; (case aR => exact z16_14); (case aB => exact z16_0); (case aF => exact (fun _ _ => trivial)); (case aO => exact z16_42); (case aS => exact (below_size z16_0)); (case aL => have := LMc5.out; omega); intro v354 w15 ho hb hg hat; rw [← Ny353.out] at ho; have n0_ := Aside0.mk (hb); have n1_ := Aside0.mk (ho); clear HB; clear HO352; have HB := n0_; have HO355 := n1_; clear n0_ n1_; clear ho hb hg hat; obtain ⟨Ao16, co16, eo16⟩ := Kd.R_slice HO355.out; subst eo16) | ((with_reducible refine gate_callee (f := 13) rfl ?_); refine goesL_ (some 15) rfl rfl Try.func13 (by kernel_rfl) rfl #[.slice Ao16 y353.length co16] rfl z16_3 ?_; (with_reducible refine (event_Get.calls k _ _ y353 t356 t357 t358 t361 t364 _ ?side1 ?side2 A6.out).mono ?_); (case side1 => exact z16_15); (case side2 => exact (Kd.R_reads' HO355.out).2.1); rintro e w17 ⟨v359, v362, rfl, ho0, ho1, hb⟩; refine ⟨_, rfl, ?_⟩; have n0_ := Aside0.mk (Kd.R_below z16_6 hb); have n1_ := Aside0.mk (Kd.R_lower ho0 (below_size z16_0)); have n2_ := Aside0.mk (Kd.R_lower ho1 (below_size z16_0)); have n3_ := Aside0.mk (below_step z16_0 hb); clear HO355; clear HB; have HO355 := n0_; have HO360 := n1_; have HO363 := n2_; have HB := n3_; clear n0_ n1_ n2_ n3_; (try clear hb); (try clear hb2); (try clear hk); (try clear hi); (try clear ho0); (try clear ho1)) | ((with_reducible refine gate_dst (N := 3) rfl ?_); refine box_event ?hg (N := 3) ?hd (cs := #[.int .i64 0, .int .i64 0, .slice none 0 0, .slice none 0 0]) (t := 30) ?hr ?_; (case hd => rfl); (case hg => rfl); (case hr => exact z16_13); intro gb365 hg w18 hbox hb; have n0_ := Aside0.mk (Kd.R_below z16_6 hb); have n1_ := Aside0.mk (Kd.R_below z16_10 hb); have n2_ := Aside0.mk (Kd.R_below z16_11 hb); have n3_ := Aside0.mk (below_step z16_0 hb); have n4_ := Aside0.mk (hbox); have n5_ := Aside0.mk ((by rw [hg]; exact (below_size z16_0) : w.heap.size ≤ gb365)); have n6_ := Aside0.mk ((by rw [hg]; exact (below_size z16_0) : w.heap.size ≤ gb365)); clear HO355; clear HO360; clear HO363; clear HB; have HO355 := n0_; have HO360 := n1_; have HO363 := n2_; have HB := n3_; have BK365 := n4_; have GW365 := n5_; have GE365 := n6_; clear n0_ n1_ n2_ n3_ n4_ n5_ n6_; clear hb hbox hg; have hcz19_0 : w18.cell? ⟨gb365, 0, none⟩ = some (.int .i64 0) := (blk_cell BK365.out 0).trans rfl; have hcz19_1 : w18.cell? ⟨gb365, 1, none⟩ = some (.int .i64 0) := (blk_cell BK365.out 1).trans rfl; have hcz19_2 : w18.cell? ⟨gb365, 2, none⟩ = some (.slice none 0 0) := (blk_cell BK365.out 2).trans rfl; have hcz19_3 : w18.cell? ⟨gb365, 3, none⟩ = some (.slice none 0 0) := (blk_cell BK365.out 3).trans rfl; have hfz19_0 := blk_frozen BK365.out 0; have hfz19_1 := blk_frozen BK365.out 1; have hfz19_2 := blk_frozen BK365.out 2; have hfz19_3 := blk_frozen BK365.out 3; obtain ⟨Ao20, co20, eo20⟩ := Kd.R_slice HO360.out; subst eo20; obtain ⟨Ao21, co21, eo21⟩ := Kd.R_slice HO363.out; subst eo21) | ((with_reducible refine gate_callee (f := 14) rfl ?_); refine goesL_ (some 20) rfl rfl Try.func14 (by kernel_rfl) rfl #[.slice A0 l0.length c0] rfl z16_3 ?_; (with_reducible refine (hucksterref05_Get.calls k _ _ l0 t366 t367 t368 t371 t374 _ ?side1 ?side2 A7.out).mono ?_); (case side1 => exact Kd.C_below HR0.out z16_1); (case side2 => exact HC0.out); rintro e w22 ⟨v369, v372, rfl, ho0, ho1, hb⟩; refine ⟨_, rfl, ?_⟩; have n0_ := Aside0.mk (Kd.R_below (by (with_reducible repeat (first | apply Kd.R_alloc | apply Kd.R_drewN | apply Kd.R_drew)); exact (Kd.R_mono (Kd.R_far (p := ⟨gb365, 3, none⟩) (Kd.R_far (p := ⟨gb365, 2, none⟩) (Kd.R_far (p := ⟨gb365, 1, none⟩) (Kd.R_far (p := ⟨gb365, 0, none⟩) (Kd.R_types HO355.out BK365.out (by decide)) (fun _ hk => hk.2) (.int .i64 t356)) (fun _ hk => hk.2) (.int .i64 t357)) (fun _ hk => hk.2) (.slice Ao20 t358.length co20)) (fun _ hk => hk.2) (.slice Ao21 t361.length co21)) (fun _ h_ => h_.1))) hb); have n1_ := Aside0.mk (Kd.R_elder' z16_16 (Kd.R_base ho0) hb); have n2_ := Aside0.mk (Kd.R_elder' z16_17 (Kd.R_base ho1) hb); have n3_ := Aside0.mk (Kd.R_lower (Kd.R_new' ho0 (Kd.R_lt z16_16)) (below_size z16_1)); have n4_ := Aside0.mk (Kd.R_lower (Kd.R_new' ho1 (Kd.R_lt z16_17)) (below_size z16_1)); have n5_ := Aside0.mk (blk_below (g := gb365) (o := .cells #[.int .i64 t356, .int .i64 t357, .slice Ao20 t358.length co20, .slice Ao21 t361.length co21] 30 (0, 0)) (by (with_reducible repeat (first | refine blk_drewN ?_ _ | refine blk_drew ?_ | refine blk_alloc ?_ _)); refine blk_put (cs := #[.int .i64 t356, .int .i64 t357, .slice Ao20 t358.length co20, .slice none 0 0]) ?_ 3 _ rfl; (with_reducible repeat (first | refine blk_drewN ?_ _ | refine blk_drew ?_ | refine blk_alloc ?_ _)); refine blk_put (cs := #[.int .i64 t356, .int .i64 t357, .slice none 0 0, .slice none 0 0]) ?_ 2 _ rfl; (with_reducible repeat (first | refine blk_drewN ?_ _ | refine blk_drew ?_ | refine blk_alloc ?_ _)); refine blk_put (cs := #[.int .i64 t356, .int .i64 0, .slice none 0 0, .slice none 0 0]) ?_ 1 _ rfl; (with_reducible repeat (first | refine blk_drewN ?_ _ | refine blk_drew ?_ | refine blk_alloc ?_ _)); refine blk_put (cs := #[.int .i64 0, .int .i64 0, .slice none 0 0, .slice none 0 0]) ?_ 0 _ rfl; (with_reducible repeat (first | refine blk_drewN ?_ _ | refine blk_drew ?_ | refine blk_alloc ?_ _)); exact BK365.out) hb); have n6_ := Aside0.mk (below_step z16_1 hb); clear HO355; clear HO360; clear HO363; clear BK365; clear HB; have HO355 := n0_; have HO360 := n1_; have HO363 := n2_; have HO370 := n3_; have HO373 := n4_; have BK365 := n5_; have HB := n6_; clear n0_ n1_ n2_ n3_ n4_ n5_ n6_; (try clear hb); (try clear hb2); (try clear hk); (try clear hi); (try clear ho0); (try clear ho1)) | ((with_reducible refine gate_dst (N := 5) rfl ?_); refine box_event ?hg (N := 5) ?hd (cs := #[.int .i64 0, .int .i64 0, .slice none 0 0, .slice none 0 0]) (t := 30) ?hr ?_; (case hd => rfl); (case hg => rfl); (case hr => exact z16_13); intro gb375 hg w23 hbox hb; have n0_ := Aside0.mk (Kd.R_below z16_6 hb); have n1_ := Aside0.mk (Kd.R_below z16_10 hb); have n2_ := Aside0.mk (Kd.R_below z16_11 hb); have n3_ := Aside0.mk (Kd.R_below z16_40 hb); have n4_ := Aside0.mk (Kd.R_below z16_41 hb); have n5_ := Aside0.mk (blk_below (g := gb365) (o := .cells #[.int .i64 t356, .int .i64 t357, .slice Ao20 t358.length co20, .slice Ao21 t361.length co21] 30 (0, 0)) z16_4 hb); have n6_ := Aside0.mk (below_step z16_1 hb); have n7_ := Aside0.mk (hbox); have n8_ := Aside0.mk ((by rw [hg]; exact (below_size z16_1) : w.heap.size ≤ gb375)); have n9_ := Aside0.mk ((by rw [hg]; exact (below_size z16_1) : w.heap.size ≤ gb375)); have n10_ := Aside0.mk ((by rw [hg]; exact Nat.ne_of_lt (blk_lt (g := gb365) (o := .cells #[.int .i64 t356, .int .i64 t357, .slice Ao20 t358.length co20, .slice Ao21 t361.length co21] 30 (0, 0)) z16_4) : gb365 ≠ gb375)); have n11_ := Aside0.mk ((by rw [hg]; exact Nat.ne_of_gt (blk_lt (g := gb365) (o := .cells #[.int .i64 t356, .int .i64 t357, .slice Ao20 t358.length co20, .slice Ao21 t361.length co21] 30 (0, 0)) z16_4) : gb375 ≠ gb365)); clear HO355; clear HO360; clear HO363; clear HO370; clear HO373; clear BK365; clear HB; have HO355 := n0_; have HO360 := n1_; have HO363 := n2_; have HO370 := n3_; have HO373 := n4_; have BK365 := n5_; have HB := n6_; have BK375 := n7_; have GW375 := n8_; have GE375 := n9_; have NB365_375 := n10_; have NB375_365 := n11_; clear n0_ n1_ n2_ n3_ n4_ n5_ n6_ n7_ n8_ n9_ n10_ n11_; clear hb hbox hg; have hnb24 := NB375_365.out; have hnc24 := NB365_375.out; have hcz25_0 : w23.cell? ⟨gb375, 0, none⟩ = some (.int .i64 0) := (blk_cell BK375.out 0).trans rfl; have hcz25_1 : w23.cell? ⟨gb375, 1, none⟩ = some (.int .i64 0) := (blk_cell BK375.out 1).trans rfl; have hcz25_2 : w23.cell? ⟨gb375, 2, none⟩ = some (.slice none 0 0) := (blk_cell BK375.out 2).trans rfl; have hcz25_3 : w23.cell? ⟨gb375, 3, none⟩ = some (.slice none 0 0) := (blk_cell BK375.out 3).trans rfl; have hfz25_0 := blk_frozen BK375.out 0; have hfz25_1 := blk_frozen BK375.out 1; have hfz25_2 := blk_frozen BK375.out 2; have hfz25_3 := blk_frozen BK375.out 3; obtain ⟨Ao26, co26, eo26⟩ := Kd.R_slice HO370.out; subst eo26; obtain ⟨Ao27, co27, eo27⟩ := Kd.R_slice HO373.out; subst eo27; have hcz28_0 : w23.cell? ⟨gb365, 0, none⟩ = some (.int .i64 t356) := (blk_cell BK365.out 0).trans rfl; have hcz28_1 : w23.cell? ⟨gb365, 1, none⟩ = some (.int .i64 t357) := (blk_cell BK365.out 1).trans rfl; have hcz28_2 : w23.cell? ⟨gb365, 2, none⟩ = some (.slice Ao20 t358.length co20) := (blk_cell BK365.out 2).trans rfl; have hcz28_3 : w23.cell? ⟨gb365, 3, none⟩ = some (.slice Ao21 t361.length co21) := (blk_cell BK365.out 3).trans rfl; have hfz28_0 := blk_frozen BK365.out 0; have hfz28_1 := blk_frozen BK365.out 1; have hfz28_2 := blk_frozen BK365.out 2; have hfz28_3 := blk_frozen BK365.out 3) | ((with_reducible refine gate_callee (f := 15) rfl ?_); refine goesL_ (some 25) rfl rfl Try.func15 (by kernel_rfl) rfl #[.agg #[.int .i64 t356, .int .i64 t357, .slice Ao20 t358.length co20, .slice Ao21 t361.length co21], .agg #[.int .i64 t366, .int .i64 t367, .slice Ao26 t368.length co26, .slice Ao27 t371.length co27]] rfl z16_3 ?_; (with_reducible refine (hucksterref05_Same.calls k t356 t357 _ _ t358 _ _ t361 t366 t367 _ _ t368 _ _ t371 true _ ?side1 ?side2 ?side3 ?side4 ?side5 ?side6 ?side7 ?side8 A8.out).mono ?_); (case side1 => refine (Kd.R_reads' (e := 3) (base := w.heap.size) (ok := fun k_ => (True ∧ some k_ ≠ (.slice Ao26 t368.length co26 : Value).ownBlock)) (n := t358.length) (c := co20) ?_).2.2; exact z16_18); (case side2 => exact (Kd.R_reads' HO360.out).2.1); (case side3 => refine (Kd.R_reads' (e := 48) (base := w.heap.size) (ok := fun k_ => (True ∧ some k_ ≠ (.slice Ao27 t371.length co27 : Value).ownBlock)) (n := t361.length) (c := co21) ?_).2.2; exact z16_19); (case side4 => exact (Kd.R_reads' HO363.out).2.1); (case side5 => refine (Kd.R_reads' (e := 3) (base := w.heap.size) (ok := fun k_ => (True ∧ some k_ ≠ (.slice Ao20 t358.length co20 : Value).ownBlock)) (n := t368.length) (c := co26) ?_).2.2; exact z16_20); (case side6 => exact (Kd.R_reads' HO370.out).2.1); (case side7 => refine (Kd.R_reads' (e := 48) (base := w.heap.size) (ok := fun k_ => (True ∧ some k_ ≠ (.slice Ao21 t361.length co21 : Value).ownBlock)) (n := t371.length) (c := co27) ?_).2.2; exact z16_21); (case side8 => exact (Kd.R_reads' HO373.out).2.1); rintro e w29 ⟨rfl, hb⟩; refine ⟨_, rfl, ?_⟩; have n0_ := Aside0.mk (Kd.R_below (by (with_reducible repeat (first | apply Kd.R_alloc | apply Kd.R_drewN | apply Kd.R_drew)); exact (Kd.R_mono (Kd.R_far (p := ⟨gb375, 3, none⟩) (Kd.R_far (p := ⟨gb375, 2, none⟩) (Kd.R_far (p := ⟨gb375, 1, none⟩) (Kd.R_far (p := ⟨gb375, 0, none⟩) (Kd.R_types HO355.out BK375.out (by decide)) (fun _ hk => hk.2) (.int .i64 t366)) (fun _ hk => hk.2) (.int .i64 t367)) (fun _ hk => hk.2) (.slice Ao26 t368.length co26)) (fun _ hk => hk.2) (.slice Ao27 t371.length co27)) (fun _ h_ => h_.1))) hb); have n1_ := Aside0.mk (Kd.R_below z16_18 hb); have n2_ := Aside0.mk (Kd.R_below z16_19 hb); have n3_ := Aside0.mk (Kd.R_below z16_20 hb); have n4_ := Aside0.mk (Kd.R_below z16_21 hb); have n5_ := Aside0.mk (blk_below (g := gb365) (o := .cells #[.int .i64 t356, .int .i64 t357, .slice Ao20 t358.length co20, .slice Ao21 t361.length co21] 30 (0, 0)) z16_2 hb); have n6_ := Aside0.mk (blk_below (g := gb375) (o := .cells #[.int .i64 t366, .int .i64 t367, .slice Ao26 t368.length co26, .slice Ao27 t371.length co27] 30 (0, 0)) (by (with_reducible repeat (first | refine blk_drewN ?_ _ | refine blk_drew ?_ | refine blk_alloc ?_ _)); refine blk_put (cs := #[.int .i64 t366, .int .i64 t367, .slice Ao26 t368.length co26, .slice none 0 0]) ?_ 3 _ rfl; (with_reducible repeat (first | refine blk_drewN ?_ _ | refine blk_drew ?_ | refine blk_alloc ?_ _)); refine blk_put (cs := #[.int .i64 t366, .int .i64 t367, .slice none 0 0, .slice none 0 0]) ?_ 2 _ rfl; (with_reducible repeat (first | refine blk_drewN ?_ _ | refine blk_drew ?_ | refine blk_alloc ?_ _)); refine blk_put (cs := #[.int .i64 t366, .int .i64 0, .slice none 0 0, .slice none 0 0]) ?_ 1 _ rfl; (with_reducible repeat (first | refine blk_drewN ?_ _ | refine blk_drew ?_ | refine blk_alloc ?_ _)); refine blk_put (cs := #[.int .i64 0, .int .i64 0, .slice none 0 0, .slice none 0 0]) ?_ 0 _ rfl; (with_reducible repeat (first | refine blk_drewN ?_ _ | refine blk_drew ?_ | refine blk_alloc ?_ _)); exact BK375.out) hb); have n7_ := Aside0.mk (below_step z16_12 hb); clear HO355; clear HO360; clear HO363; clear HO370; clear HO373; clear BK365; clear BK375; clear HB; have HO355 := n0_; have HO360 := n1_; have HO363 := n2_; have HO370 := n3_; have HO373 := n4_; have BK365 := n5_; have BK375 := n6_; have HB := n7_; clear n0_ n1_ n2_ n3_ n4_ n5_ n6_ n7_; (try clear hb); (try clear hb2); (try clear hk); (try clear hi)) | (go_at_call 12; (with_reducible refine (hucksterlaw05_awake.calls k  t377 _ A12.out).mono ?_); rintro e w30 ⟨rfl, hb⟩; have n0_ := Aside0.mk (Kd.R_below z16_6 hb); have n1_ := Aside0.mk (Kd.R_below z16_10 hb); have n2_ := Aside0.mk (Kd.R_below z16_11 hb); have n3_ := Aside0.mk (Kd.R_below z16_40 hb); have n4_ := Aside0.mk (Kd.R_below z16_41 hb); have n5_ := Aside0.mk (blk_below (g := gb365) (o := .cells #[.int .i64 t356, .int .i64 t357, .slice Ao20 t358.length co20, .slice Ao21 t361.length co21] 30 (0, 0)) z16_4 hb); have n6_ := Aside0.mk (blk_below (g := gb375) (o := .cells #[.int .i64 t366, .int .i64 t367, .slice Ao26 t368.length co26, .slice Ao27 t371.length co27] 30 (0, 0)) (by (with_reducible repeat (first | refine blk_drewN ?_ _ | refine blk_drew ?_ | refine blk_alloc ?_ _)); exact BK375.out) hb); have n7_ := Aside0.mk (below_step z16_12 hb); clear HO355; clear HO360; clear HO363; clear HO370; clear HO373; clear BK365; clear BK375; clear HB; have HO355 := n0_; have HO360 := n1_; have HO363 := n2_; have HO370 := n3_; have HO373 := n4_; have BK365 := n5_; have BK375 := n6_; have HB := n7_; clear n0_ n1_ n2_ n3_ n4_ n5_ n6_ n7_; (try clear hb); (try clear hb2); (try clear hk); (try clear hi)))
      go_ret
      exact ⟨by first | rfl | (simp [errW_none, errW_some] <;> rfl) | (simp [*, errW_none, errW_some] <;> rfl), by repeat (first | (with_reducible first | exact HB.out | apply below_alloc | apply pw_below_drewN | apply below_drew1 | refine below_set ?_ GE365.out | refine below_set ?_ GE375.out) | exact HB.out)⟩
     ·rw [if_neg c11] at H
      have c11b0 : ((t364 == 2) == (!t374)) = false := by simpa using c11
      (try (have c11b1 : decide ((t364 == 2) = (!t374)) = false := by simpa using c11))
      (try (have c11b2 : ((t364 == 2) == (!t374)) = false := by simpa using c11))
      (try (have c11b3 : ¬ ((t364 == 2) = (!t374)) := by simpa using c11))
      clear c11
      obtain rfl := Option.some.inj H
      go_enter Try.func3, Try.ntmps3
      go_wp2_with (first | ((with_reducible refine gate_dst (N := 12) rfl ?_); refine Kd.R_lit (Kd.int .u8) _ 5 ?hg (N := 12) ?hd (xs := ([] : List Int)) (inner := []) (ok := fun _ => True) (okp := fun _ => True) ?hr ?hp (fun _ hk => hk) trivial (Below.refl _ _) (Nat.le_refl _) (by simp) ?_; (case hd => rfl); (case hg => rfl); (case hr => exact z16_13); (case hp => exact (Reps.none _ _)); intro v351 w31 ho32 hb hg_ hnew_; clear hg_ hnew_; (first | rw [← Ny350.out] at ho32 | (simp only [Int.reduceToNat] at ho32; rw [← Ny350.out] at ho32)); have n0_ := Aside0.mk (Kd.R_lower ho32 (below_size z16_0)); have n1_ := Aside0.mk (below_step z16_0 hb); clear HB; have HO352 := n0_; have HB := n1_; clear n0_ n1_; clear hb ho32) | ((with_reducible refine gate_builtin (b := .append) (xs := #[.tmp 12, .tmp 13]) rfl ?_); at_builtin; refine Kd.R_append_rows (Kd.int .u8) (w0 := w) w.heap.size rfl (.tmp 12) (.tmp 13) 22 5 (.int .u8 0) 1 rfl Try.underlying22 info5 rfl (by decide) (by omega) v351 y350 l0 _ _ _ (fun _ => True) (fun _ => False) rfl rfl ?aO ?aR (fun _ _ h => h) (fun _ h => h.elim) ?aF ?aB ?aS ?aL ?_; (case aR => exact z16_14); (case aB => exact z16_0); (case aF => exact (fun _ _ => trivial)); (case aO => exact z16_42); (case aS => exact (below_size z16_0)); (case aL => have := LMc5.out; omega); intro v354 w33 ho hb hg hat; rw [← Ny353.out] at ho; have n0_ := Aside0.mk (hb); have n1_ := Aside0.mk (ho); clear HB; clear HO352; have HB := n0_; have HO355 := n1_; clear n0_ n1_; clear ho hb hg hat; obtain ⟨Ao34, co34, eo34⟩ := Kd.R_slice HO355.out; subst eo34) | ((with_reducible refine gate_callee (f := 13) rfl ?_); refine goesL_ (some 15) rfl rfl Try.func13 (by kernel_rfl) rfl #[.slice Ao34 y353.length co34] rfl z16_3 ?_; (with_reducible refine (event_Get.calls k _ _ y353 t356 t357 t358 t361 t364 _ ?side1 ?side2 A6.out).mono ?_); (case side1 => exact z16_15); (case side2 => exact (Kd.R_reads' HO355.out).2.1); rintro e w35 ⟨v359, v362, rfl, ho0, ho1, hb⟩; refine ⟨_, rfl, ?_⟩; have n0_ := Aside0.mk (Kd.R_below z16_6 hb); have n1_ := Aside0.mk (Kd.R_lower ho0 (below_size z16_0)); have n2_ := Aside0.mk (Kd.R_lower ho1 (below_size z16_0)); have n3_ := Aside0.mk (below_step z16_0 hb); clear HO355; clear HB; have HO355 := n0_; have HO360 := n1_; have HO363 := n2_; have HB := n3_; clear n0_ n1_ n2_ n3_; (try clear hb); (try clear hb2); (try clear hk); (try clear hi); (try clear ho0); (try clear ho1)) | ((with_reducible refine gate_dst (N := 3) rfl ?_); refine box_event ?hg (N := 3) ?hd (cs := #[.int .i64 0, .int .i64 0, .slice none 0 0, .slice none 0 0]) (t := 30) ?hr ?_; (case hd => rfl); (case hg => rfl); (case hr => exact z16_13); intro gb365 hg w36 hbox hb; have n0_ := Aside0.mk (Kd.R_below z16_6 hb); have n1_ := Aside0.mk (Kd.R_below z16_10 hb); have n2_ := Aside0.mk (Kd.R_below z16_11 hb); have n3_ := Aside0.mk (below_step z16_0 hb); have n4_ := Aside0.mk (hbox); have n5_ := Aside0.mk ((by rw [hg]; exact (below_size z16_0) : w.heap.size ≤ gb365)); have n6_ := Aside0.mk ((by rw [hg]; exact (below_size z16_0) : w.heap.size ≤ gb365)); clear HO355; clear HO360; clear HO363; clear HB; have HO355 := n0_; have HO360 := n1_; have HO363 := n2_; have HB := n3_; have BK365 := n4_; have GW365 := n5_; have GE365 := n6_; clear n0_ n1_ n2_ n3_ n4_ n5_ n6_; clear hb hbox hg; have hcz37_0 : w36.cell? ⟨gb365, 0, none⟩ = some (.int .i64 0) := (blk_cell BK365.out 0).trans rfl; have hcz37_1 : w36.cell? ⟨gb365, 1, none⟩ = some (.int .i64 0) := (blk_cell BK365.out 1).trans rfl; have hcz37_2 : w36.cell? ⟨gb365, 2, none⟩ = some (.slice none 0 0) := (blk_cell BK365.out 2).trans rfl; have hcz37_3 : w36.cell? ⟨gb365, 3, none⟩ = some (.slice none 0 0) := (blk_cell BK365.out 3).trans rfl; have hfz37_0 := blk_frozen BK365.out 0; have hfz37_1 := blk_frozen BK365.out 1; have hfz37_2 := blk_frozen BK365.out 2; have hfz37_3 := blk_frozen BK365.out 3; obtain ⟨Ao38, co38, eo38⟩ := Kd.R_slice HO360.out; subst eo38; obtain ⟨Ao39, co39, eo39⟩ := Kd.R_slice HO363.out; subst eo39) | ((with_reducible refine gate_callee (f := 14) rfl ?_); refine goesL_ (some 20) rfl rfl Try.func14 (by kernel_rfl) rfl #[.slice A0 l0.length c0] rfl z16_3 ?_; (with_reducible refine (hucksterref05_Get.calls k _ _ l0 t366 t367 t368 t371 t374 _ ?side1 ?side2 A7.out).mono ?_); (case side1 => exact Kd.C_below HR0.out z16_1); (case side2 => exact HC0.out); rintro e w40 ⟨v369, v372, rfl, ho0, ho1, hb⟩; refine ⟨_, rfl, ?_⟩; have n0_ := Aside0.mk (Kd.R_below (by (with_reducible repeat (first | apply Kd.R_alloc | apply Kd.R_drewN | apply Kd.R_drew)); exact (Kd.R_mono (Kd.R_far (p := ⟨gb365, 3, none⟩) (Kd.R_far (p := ⟨gb365, 2, none⟩) (Kd.R_far (p := ⟨gb365, 1, none⟩) (Kd.R_far (p := ⟨gb365, 0, none⟩) (Kd.R_types HO355.out BK365.out (by decide)) (fun _ hk => hk.2) (.int .i64 t356)) (fun _ hk => hk.2) (.int .i64 t357)) (fun _ hk => hk.2) (.slice Ao38 t358.length co38)) (fun _ hk => hk.2) (.slice Ao39 t361.length co39)) (fun _ h_ => h_.1))) hb); have n1_ := Aside0.mk (Kd.R_elder' z16_22 (Kd.R_base ho0) hb); have n2_ := Aside0.mk (Kd.R_elder' z16_23 (Kd.R_base ho1) hb); have n3_ := Aside0.mk (Kd.R_lower (Kd.R_new' ho0 (Kd.R_lt z16_22)) (below_size z16_1)); have n4_ := Aside0.mk (Kd.R_lower (Kd.R_new' ho1 (Kd.R_lt z16_23)) (below_size z16_1)); have n5_ := Aside0.mk (blk_below (g := gb365) (o := .cells #[.int .i64 t356, .int .i64 t357, .slice Ao38 t358.length co38, .slice Ao39 t361.length co39] 30 (0, 0)) (by (with_reducible repeat (first | refine blk_drewN ?_ _ | refine blk_drew ?_ | refine blk_alloc ?_ _)); refine blk_put (cs := #[.int .i64 t356, .int .i64 t357, .slice Ao38 t358.length co38, .slice none 0 0]) ?_ 3 _ rfl; (with_reducible repeat (first | refine blk_drewN ?_ _ | refine blk_drew ?_ | refine blk_alloc ?_ _)); refine blk_put (cs := #[.int .i64 t356, .int .i64 t357, .slice none 0 0, .slice none 0 0]) ?_ 2 _ rfl; (with_reducible repeat (first | refine blk_drewN ?_ _ | refine blk_drew ?_ | refine blk_alloc ?_ _)); refine blk_put (cs := #[.int .i64 t356, .int .i64 0, .slice none 0 0, .slice none 0 0]) ?_ 1 _ rfl; (with_reducible repeat (first | refine blk_drewN ?_ _ | refine blk_drew ?_ | refine blk_alloc ?_ _)); refine blk_put (cs := #[.int .i64 0, .int .i64 0, .slice none 0 0, .slice none 0 0]) ?_ 0 _ rfl; (with_reducible repeat (first | refine blk_drewN ?_ _ | refine blk_drew ?_ | refine blk_alloc ?_ _)); exact BK365.out) hb); have n6_ := Aside0.mk (below_step z16_1 hb); clear HO355; clear HO360; clear HO363; clear BK365; clear HB; have HO355 := n0_; have HO360 := n1_; have HO363 := n2_; have HO370 := n3_; have HO373 := n4_; have BK365 := n5_; have HB := n6_; clear n0_ n1_ n2_ n3_ n4_ n5_ n6_; (try clear hb); (try clear hb2); (try clear hk); (try clear hi); (try clear ho0); (try clear ho1)) | ((with_reducible refine gate_dst (N := 5) rfl ?_); refine box_event ?hg (N := 5) ?hd (cs := #[.int .i64 0, .int .i64 0, .slice none 0 0, .slice none 0 0]) (t := 30) ?hr ?_; (case hd => rfl); (case hg => rfl); (case hr => exact z16_13); intro gb375 hg w41 hbox hb; have n0_ := Aside0.mk (Kd.R_below z16_6 hb); have n1_ := Aside0.mk (Kd.R_below z16_10 hb); have n2_ := Aside0.mk (Kd.R_below z16_11 hb); have n3_ := Aside0.mk (Kd.R_below z16_40 hb); have n4_ := Aside0.mk (Kd.R_below z16_41 hb); have n5_ := Aside0.mk (blk_below (g := gb365) (o := .cells #[.int .i64 t356, .int .i64 t357, .slice Ao38 t358.length co38, .slice Ao39 t361.length co39] 30 (0, 0)) z16_4 hb); have n6_ := Aside0.mk (below_step z16_1 hb); have n7_ := Aside0.mk (hbox); have n8_ := Aside0.mk ((by rw [hg]; exact (below_size z16_1) : w.heap.size ≤ gb375)); have n9_ := Aside0.mk ((by rw [hg]; exact (below_size z16_1) : w.heap.size ≤ gb375)); have n10_ := Aside0.mk ((by rw [hg]; exact Nat.ne_of_lt (blk_lt (g := gb365) (o := .cells #[.int .i64 t356, .int .i64 t357, .slice Ao38 t358.length co38, .slice Ao39 t361.length co39] 30 (0, 0)) z16_4) : gb365 ≠ gb375)); have n11_ := Aside0.mk ((by rw [hg]; exact Nat.ne_of_gt (blk_lt (g := gb365) (o := .cells #[.int .i64 t356, .int .i64 t357, .slice Ao38 t358.length co38, .slice Ao39 t361.length co39] 30 (0, 0)) z16_4) : gb375 ≠ gb365)); clear HO355; clear HO360; clear HO363; clear HO370; clear HO373; clear BK365; clear HB; have HO355 := n0_; have HO360 := n1_; have HO363 := n2_; have HO370 := n3_; have HO373 := n4_; have BK365 := n5_; have HB := n6_; have BK375 := n7_; have GW375 := n8_; have GE375 := n9_; have NB365_375 := n10_; have NB375_365 := n11_; clear n0_ n1_ n2_ n3_ n4_ n5_ n6_ n7_ n8_ n9_ n10_ n11_; clear hb hbox hg; have hnb42 := NB375_365.out; have hnc42 := NB365_375.out; have hcz43_0 : w41.cell? ⟨gb375, 0, none⟩ = some (.int .i64 0) := (blk_cell BK375.out 0).trans rfl; have hcz43_1 : w41.cell? ⟨gb375, 1, none⟩ = some (.int .i64 0) := (blk_cell BK375.out 1).trans rfl; have hcz43_2 : w41.cell? ⟨gb375, 2, none⟩ = some (.slice none 0 0) := (blk_cell BK375.out 2).trans rfl; have hcz43_3 : w41.cell? ⟨gb375, 3, none⟩ = some (.slice none 0 0) := (blk_cell BK375.out 3).trans rfl; have hfz43_0 := blk_frozen BK375.out 0; have hfz43_1 := blk_frozen BK375.out 1; have hfz43_2 := blk_frozen BK375.out 2; have hfz43_3 := blk_frozen BK375.out 3; obtain ⟨Ao44, co44, eo44⟩ := Kd.R_slice HO370.out; subst eo44; obtain ⟨Ao45, co45, eo45⟩ := Kd.R_slice HO373.out; subst eo45; have hcz46_0 : w41.cell? ⟨gb365, 0, none⟩ = some (.int .i64 t356) := (blk_cell BK365.out 0).trans rfl; have hcz46_1 : w41.cell? ⟨gb365, 1, none⟩ = some (.int .i64 t357) := (blk_cell BK365.out 1).trans rfl; have hcz46_2 : w41.cell? ⟨gb365, 2, none⟩ = some (.slice Ao38 t358.length co38) := (blk_cell BK365.out 2).trans rfl; have hcz46_3 : w41.cell? ⟨gb365, 3, none⟩ = some (.slice Ao39 t361.length co39) := (blk_cell BK365.out 3).trans rfl; have hfz46_0 := blk_frozen BK365.out 0; have hfz46_1 := blk_frozen BK365.out 1; have hfz46_2 := blk_frozen BK365.out 2; have hfz46_3 := blk_frozen BK365.out 3) | ((with_reducible refine gate_callee (f := 15) rfl ?_); refine goesL_ (some 25) rfl rfl Try.func15 (by kernel_rfl) rfl #[.agg #[.int .i64 t356, .int .i64 t357, .slice Ao38 t358.length co38, .slice Ao39 t361.length co39], .agg #[.int .i64 t366, .int .i64 t367, .slice Ao44 t368.length co44, .slice Ao45 t371.length co45]] rfl z16_3 ?_; (with_reducible refine (hucksterref05_Same.calls k t356 t357 _ _ t358 _ _ t361 t366 t367 _ _ t368 _ _ t371 true _ ?side1 ?side2 ?side3 ?side4 ?side5 ?side6 ?side7 ?side8 A8.out).mono ?_); (case side1 => refine (Kd.R_reads' (e := 3) (base := w.heap.size) (ok := fun k_ => (True ∧ some k_ ≠ (.slice Ao44 t368.length co44 : Value).ownBlock)) (n := t358.length) (c := co38) ?_).2.2; exact z16_24); (case side2 => exact (Kd.R_reads' HO360.out).2.1); (case side3 => refine (Kd.R_reads' (e := 48) (base := w.heap.size) (ok := fun k_ => (True ∧ some k_ ≠ (.slice Ao45 t371.length co45 : Value).ownBlock)) (n := t361.length) (c := co39) ?_).2.2; exact z16_25); (case side4 => exact (Kd.R_reads' HO363.out).2.1); (case side5 => refine (Kd.R_reads' (e := 3) (base := w.heap.size) (ok := fun k_ => (True ∧ some k_ ≠ (.slice Ao38 t358.length co38 : Value).ownBlock)) (n := t368.length) (c := co44) ?_).2.2; exact z16_26); (case side6 => exact (Kd.R_reads' HO370.out).2.1); (case side7 => refine (Kd.R_reads' (e := 48) (base := w.heap.size) (ok := fun k_ => (True ∧ some k_ ≠ (.slice Ao39 t361.length co39 : Value).ownBlock)) (n := t371.length) (c := co45) ?_).2.2; exact z16_27); (case side8 => exact (Kd.R_reads' HO373.out).2.1); rintro e w47 ⟨rfl, hb⟩; refine ⟨_, rfl, ?_⟩; have n0_ := Aside0.mk (Kd.R_below (by (with_reducible repeat (first | apply Kd.R_alloc | apply Kd.R_drewN | apply Kd.R_drew)); exact (Kd.R_mono (Kd.R_far (p := ⟨gb375, 3, none⟩) (Kd.R_far (p := ⟨gb375, 2, none⟩) (Kd.R_far (p := ⟨gb375, 1, none⟩) (Kd.R_far (p := ⟨gb375, 0, none⟩) (Kd.R_types HO355.out BK375.out (by decide)) (fun _ hk => hk.2) (.int .i64 t366)) (fun _ hk => hk.2) (.int .i64 t367)) (fun _ hk => hk.2) (.slice Ao44 t368.length co44)) (fun _ hk => hk.2) (.slice Ao45 t371.length co45)) (fun _ h_ => h_.1))) hb); have n1_ := Aside0.mk (Kd.R_below z16_24 hb); have n2_ := Aside0.mk (Kd.R_below z16_25 hb); have n3_ := Aside0.mk (Kd.R_below z16_26 hb); have n4_ := Aside0.mk (Kd.R_below z16_27 hb); have n5_ := Aside0.mk (blk_below (g := gb365) (o := .cells #[.int .i64 t356, .int .i64 t357, .slice Ao38 t358.length co38, .slice Ao39 t361.length co39] 30 (0, 0)) z16_2 hb); have n6_ := Aside0.mk (blk_below (g := gb375) (o := .cells #[.int .i64 t366, .int .i64 t367, .slice Ao44 t368.length co44, .slice Ao45 t371.length co45] 30 (0, 0)) (by (with_reducible repeat (first | refine blk_drewN ?_ _ | refine blk_drew ?_ | refine blk_alloc ?_ _)); refine blk_put (cs := #[.int .i64 t366, .int .i64 t367, .slice Ao44 t368.length co44, .slice none 0 0]) ?_ 3 _ rfl; (with_reducible repeat (first | refine blk_drewN ?_ _ | refine blk_drew ?_ | refine blk_alloc ?_ _)); refine blk_put (cs := #[.int .i64 t366, .int .i64 t367, .slice none 0 0, .slice none 0 0]) ?_ 2 _ rfl; (with_reducible repeat (first | refine blk_drewN ?_ _ | refine blk_drew ?_ | refine blk_alloc ?_ _)); refine blk_put (cs := #[.int .i64 t366, .int .i64 0, .slice none 0 0, .slice none 0 0]) ?_ 1 _ rfl; (with_reducible repeat (first | refine blk_drewN ?_ _ | refine blk_drew ?_ | refine blk_alloc ?_ _)); refine blk_put (cs := #[.int .i64 0, .int .i64 0, .slice none 0 0, .slice none 0 0]) ?_ 0 _ rfl; (with_reducible repeat (first | refine blk_drewN ?_ _ | refine blk_drew ?_ | refine blk_alloc ?_ _)); exact BK375.out) hb); have n7_ := Aside0.mk (below_step z16_12 hb); clear HO355; clear HO360; clear HO363; clear HO370; clear HO373; clear BK365; clear BK375; clear HB; have HO355 := n0_; have HO360 := n1_; have HO363 := n2_; have HO370 := n3_; have HO373 := n4_; have BK365 := n5_; have BK375 := n6_; have HB := n7_; clear n0_ n1_ n2_ n3_ n4_ n5_ n6_ n7_; (try clear hb); (try clear hb2); (try clear hk); (try clear hi)))
      go_ret
      exact ⟨by first | rfl | (simp [errW_none, errW_some] <;> rfl) | (simp [*, errW_none, errW_some] <;> rfl), by repeat (first | (with_reducible first | exact HB.out | apply below_alloc | apply pw_below_drewN | apply below_drew1 | refine below_set ?_ GE365.out | refine below_set ?_ GE375.out) | exact HB.out)⟩
    ·rw [if_neg c10] at H
     have c10b0 : ((t364 == 0) == t374) = false := by simpa using c10
     (try (have c10b1 : decide ((t364 == 0) = t374) = false := by simpa using c10))
     (try (have c10b2 : ((t364 == 0) == t374) = false := by simpa using c10))
     (try (have c10b3 : ¬ ((t364 == 0) = t374) := by simpa using c10))
     clear c10
     obtain rfl := Option.some.inj H
     go_enter Try.func3, Try.ntmps3
     go_wp2_with (first | ((with_reducible refine gate_dst (N := 12) rfl ?_); refine Kd.R_lit (Kd.int .u8) _ 5 ?hg (N := 12) ?hd (xs := ([] : List Int)) (inner := []) (ok := fun _ => True) (okp := fun _ => True) ?hr ?hp (fun _ hk => hk) trivial (Below.refl _ _) (Nat.le_refl _) (by simp) ?_; (case hd => rfl); (case hg => rfl); (case hr => exact z16_13); (case hp => exact (Reps.none _ _)); intro v351 w48 ho49 hb hg_ hnew_; clear hg_ hnew_; (first | rw [← Ny350.out] at ho49 | (simp only [Int.reduceToNat] at ho49; rw [← Ny350.out] at ho49)); have n0_ := Aside0.mk (Kd.R_lower ho49 (below_size z16_0)); have n1_ := Aside0.mk (below_step z16_0 hb); clear HB; have HO352 := n0_; have HB := n1_; clear n0_ n1_; clear hb ho49) | ((with_reducible refine gate_builtin (b := .append) (xs := #[.tmp 12, .tmp 13]) rfl ?_); at_builtin; refine Kd.R_append_rows (Kd.int .u8) (w0 := w) w.heap.size rfl (.tmp 12) (.tmp 13) 22 5 (.int .u8 0) 1 rfl Try.underlying22 info5 rfl (by decide) (by omega) v351 y350 l0 _ _ _ (fun _ => True) (fun _ => False) rfl rfl ?aO ?aR (fun _ _ h => h) (fun _ h => h.elim) ?aF ?aB ?aS ?aL ?_; (case aR => exact z16_14); (case aB => exact z16_0); (case aF => exact (fun _ _ => trivial)); (case aO => exact z16_42); (case aS => exact (below_size z16_0)); (case aL => have := LMc5.out; omega); intro v354 w50 ho hb hg hat; rw [← Ny353.out] at ho; have n0_ := Aside0.mk (hb); have n1_ := Aside0.mk (ho); clear HB; clear HO352; have HB := n0_; have HO355 := n1_; clear n0_ n1_; clear ho hb hg hat; obtain ⟨Ao51, co51, eo51⟩ := Kd.R_slice HO355.out; subst eo51) | ((with_reducible refine gate_callee (f := 13) rfl ?_); refine goesL_ (some 15) rfl rfl Try.func13 (by kernel_rfl) rfl #[.slice Ao51 y353.length co51] rfl z16_3 ?_; (with_reducible refine (event_Get.calls k _ _ y353 t356 t357 t358 t361 t364 _ ?side1 ?side2 A6.out).mono ?_); (case side1 => exact z16_15); (case side2 => exact (Kd.R_reads' HO355.out).2.1); rintro e w52 ⟨v359, v362, rfl, ho0, ho1, hb⟩; refine ⟨_, rfl, ?_⟩; have n0_ := Aside0.mk (Kd.R_below z16_6 hb); have n1_ := Aside0.mk (Kd.R_lower ho0 (below_size z16_0)); have n2_ := Aside0.mk (Kd.R_lower ho1 (below_size z16_0)); have n3_ := Aside0.mk (below_step z16_0 hb); clear HO355; clear HB; have HO355 := n0_; have HO360 := n1_; have HO363 := n2_; have HB := n3_; clear n0_ n1_ n2_ n3_; (try clear hb); (try clear hb2); (try clear hk); (try clear hi); (try clear ho0); (try clear ho1)) | ((with_reducible refine gate_dst (N := 3) rfl ?_); refine box_event ?hg (N := 3) ?hd (cs := #[.int .i64 0, .int .i64 0, .slice none 0 0, .slice none 0 0]) (t := 30) ?hr ?_; (case hd => rfl); (case hg => rfl); (case hr => exact z16_13); intro gb365 hg w53 hbox hb; have n0_ := Aside0.mk (Kd.R_below z16_6 hb); have n1_ := Aside0.mk (Kd.R_below z16_10 hb); have n2_ := Aside0.mk (Kd.R_below z16_11 hb); have n3_ := Aside0.mk (below_step z16_0 hb); have n4_ := Aside0.mk (hbox); have n5_ := Aside0.mk ((by rw [hg]; exact (below_size z16_0) : w.heap.size ≤ gb365)); have n6_ := Aside0.mk ((by rw [hg]; exact (below_size z16_0) : w.heap.size ≤ gb365)); clear HO355; clear HO360; clear HO363; clear HB; have HO355 := n0_; have HO360 := n1_; have HO363 := n2_; have HB := n3_; have BK365 := n4_; have GW365 := n5_; have GE365 := n6_; clear n0_ n1_ n2_ n3_ n4_ n5_ n6_; clear hb hbox hg; have hcz54_0 : w53.cell? ⟨gb365, 0, none⟩ = some (.int .i64 0) := (blk_cell BK365.out 0).trans rfl; have hcz54_1 : w53.cell? ⟨gb365, 1, none⟩ = some (.int .i64 0) := (blk_cell BK365.out 1).trans rfl; have hcz54_2 : w53.cell? ⟨gb365, 2, none⟩ = some (.slice none 0 0) := (blk_cell BK365.out 2).trans rfl; have hcz54_3 : w53.cell? ⟨gb365, 3, none⟩ = some (.slice none 0 0) := (blk_cell BK365.out 3).trans rfl; have hfz54_0 := blk_frozen BK365.out 0; have hfz54_1 := blk_frozen BK365.out 1; have hfz54_2 := blk_frozen BK365.out 2; have hfz54_3 := blk_frozen BK365.out 3; obtain ⟨Ao55, co55, eo55⟩ := Kd.R_slice HO360.out; subst eo55; obtain ⟨Ao56, co56, eo56⟩ := Kd.R_slice HO363.out; subst eo56) | ((with_reducible refine gate_callee (f := 14) rfl ?_); refine goesL_ (some 20) rfl rfl Try.func14 (by kernel_rfl) rfl #[.slice A0 l0.length c0] rfl z16_3 ?_; (with_reducible refine (hucksterref05_Get.calls k _ _ l0 t366 t367 t368 t371 t374 _ ?side1 ?side2 A7.out).mono ?_); (case side1 => exact Kd.C_below HR0.out z16_1); (case side2 => exact HC0.out); rintro e w57 ⟨v369, v372, rfl, ho0, ho1, hb⟩; refine ⟨_, rfl, ?_⟩; have n0_ := Aside0.mk (Kd.R_below (by (with_reducible repeat (first | apply Kd.R_alloc | apply Kd.R_drewN | apply Kd.R_drew)); exact (Kd.R_mono (Kd.R_far (p := ⟨gb365, 3, none⟩) (Kd.R_far (p := ⟨gb365, 2, none⟩) (Kd.R_far (p := ⟨gb365, 1, none⟩) (Kd.R_far (p := ⟨gb365, 0, none⟩) (Kd.R_types HO355.out BK365.out (by decide)) (fun _ hk => hk.2) (.int .i64 t356)) (fun _ hk => hk.2) (.int .i64 t357)) (fun _ hk => hk.2) (.slice Ao55 t358.length co55)) (fun _ hk => hk.2) (.slice Ao56 t361.length co56)) (fun _ h_ => h_.1))) hb); have n1_ := Aside0.mk (Kd.R_elder' z16_28 (Kd.R_base ho0) hb); have n2_ := Aside0.mk (Kd.R_elder' z16_29 (Kd.R_base ho1) hb); have n3_ := Aside0.mk (Kd.R_lower (Kd.R_new' ho0 (Kd.R_lt z16_28)) (below_size z16_1)); have n4_ := Aside0.mk (Kd.R_lower (Kd.R_new' ho1 (Kd.R_lt z16_29)) (below_size z16_1)); have n5_ := Aside0.mk (blk_below (g := gb365) (o := .cells #[.int .i64 t356, .int .i64 t357, .slice Ao55 t358.length co55, .slice Ao56 t361.length co56] 30 (0, 0)) (by (with_reducible repeat (first | refine blk_drewN ?_ _ | refine blk_drew ?_ | refine blk_alloc ?_ _)); refine blk_put (cs := #[.int .i64 t356, .int .i64 t357, .slice Ao55 t358.length co55, .slice none 0 0]) ?_ 3 _ rfl; (with_reducible repeat (first | refine blk_drewN ?_ _ | refine blk_drew ?_ | refine blk_alloc ?_ _)); refine blk_put (cs := #[.int .i64 t356, .int .i64 t357, .slice none 0 0, .slice none 0 0]) ?_ 2 _ rfl; (with_reducible repeat (first | refine blk_drewN ?_ _ | refine blk_drew ?_ | refine blk_alloc ?_ _)); refine blk_put (cs := #[.int .i64 t356, .int .i64 0, .slice none 0 0, .slice none 0 0]) ?_ 1 _ rfl; (with_reducible repeat (first | refine blk_drewN ?_ _ | refine blk_drew ?_ | refine blk_alloc ?_ _)); refine blk_put (cs := #[.int .i64 0, .int .i64 0, .slice none 0 0, .slice none 0 0]) ?_ 0 _ rfl; (with_reducible repeat (first | refine blk_drewN ?_ _ | refine blk_drew ?_ | refine blk_alloc ?_ _)); exact BK365.out) hb); have n6_ := Aside0.mk (below_step z16_1 hb); clear HO355; clear HO360; clear HO363; clear BK365; clear HB; have HO355 := n0_; have HO360 := n1_; have HO363 := n2_; have HO370 := n3_; have HO373 := n4_; have BK365 := n5_; have HB := n6_; clear n0_ n1_ n2_ n3_ n4_ n5_ n6_; (try clear hb); (try clear hb2); (try clear hk); (try clear hi); (try clear ho0); (try clear ho1)) | ((with_reducible refine gate_dst (N := 5) rfl ?_); refine box_event ?hg (N := 5) ?hd (cs := #[.int .i64 0, .int .i64 0, .slice none 0 0, .slice none 0 0]) (t := 30) ?hr ?_; (case hd => rfl); (case hg => rfl); (case hr => exact z16_13); intro gb375 hg w58 hbox hb; have n0_ := Aside0.mk (Kd.R_below z16_6 hb); have n1_ := Aside0.mk (Kd.R_below z16_10 hb); have n2_ := Aside0.mk (Kd.R_below z16_11 hb); have n3_ := Aside0.mk (Kd.R_below z16_40 hb); have n4_ := Aside0.mk (Kd.R_below z16_41 hb); have n5_ := Aside0.mk (blk_below (g := gb365) (o := .cells #[.int .i64 t356, .int .i64 t357, .slice Ao55 t358.length co55, .slice Ao56 t361.length co56] 30 (0, 0)) z16_4 hb); have n6_ := Aside0.mk (below_step z16_1 hb); have n7_ := Aside0.mk (hbox); have n8_ := Aside0.mk ((by rw [hg]; exact (below_size z16_1) : w.heap.size ≤ gb375)); have n9_ := Aside0.mk ((by rw [hg]; exact (below_size z16_1) : w.heap.size ≤ gb375)); have n10_ := Aside0.mk ((by rw [hg]; exact Nat.ne_of_lt (blk_lt (g := gb365) (o := .cells #[.int .i64 t356, .int .i64 t357, .slice Ao55 t358.length co55, .slice Ao56 t361.length co56] 30 (0, 0)) z16_4) : gb365 ≠ gb375)); have n11_ := Aside0.mk ((by rw [hg]; exact Nat.ne_of_gt (blk_lt (g := gb365) (o := .cells #[.int .i64 t356, .int .i64 t357, .slice Ao55 t358.length co55, .slice Ao56 t361.length co56] 30 (0, 0)) z16_4) : gb375 ≠ gb365)); clear HO355; clear HO360; clear HO363; clear HO370; clear HO373; clear BK365; clear HB; have HO355 := n0_; have HO360 := n1_; have HO363 := n2_; have HO370 := n3_; have HO373 := n4_; have BK365 := n5_; have HB := n6_; have BK375 := n7_; have GW375 := n8_; have GE375 := n9_; have NB365_375 := n10_; have NB375_365 := n11_; clear n0_ n1_ n2_ n3_ n4_ n5_ n6_ n7_ n8_ n9_ n10_ n11_; clear hb hbox hg; have hnb59 := NB375_365.out; have hnc59 := NB365_375.out; have hcz60_0 : w58.cell? ⟨gb375, 0, none⟩ = some (.int .i64 0) := (blk_cell BK375.out 0).trans rfl; have hcz60_1 : w58.cell? ⟨gb375, 1, none⟩ = some (.int .i64 0) := (blk_cell BK375.out 1).trans rfl; have hcz60_2 : w58.cell? ⟨gb375, 2, none⟩ = some (.slice none 0 0) := (blk_cell BK375.out 2).trans rfl; have hcz60_3 : w58.cell? ⟨gb375, 3, none⟩ = some (.slice none 0 0) := (blk_cell BK375.out 3).trans rfl; have hfz60_0 := blk_frozen BK375.out 0; have hfz60_1 := blk_frozen BK375.out 1; have hfz60_2 := blk_frozen BK375.out 2; have hfz60_3 := blk_frozen BK375.out 3; obtain ⟨Ao61, co61, eo61⟩ := Kd.R_slice HO370.out; subst eo61; obtain ⟨Ao62, co62, eo62⟩ := Kd.R_slice HO373.out; subst eo62; have hcz63_0 : w58.cell? ⟨gb365, 0, none⟩ = some (.int .i64 t356) := (blk_cell BK365.out 0).trans rfl; have hcz63_1 : w58.cell? ⟨gb365, 1, none⟩ = some (.int .i64 t357) := (blk_cell BK365.out 1).trans rfl; have hcz63_2 : w58.cell? ⟨gb365, 2, none⟩ = some (.slice Ao55 t358.length co55) := (blk_cell BK365.out 2).trans rfl; have hcz63_3 : w58.cell? ⟨gb365, 3, none⟩ = some (.slice Ao56 t361.length co56) := (blk_cell BK365.out 3).trans rfl; have hfz63_0 := blk_frozen BK365.out 0; have hfz63_1 := blk_frozen BK365.out 1; have hfz63_2 := blk_frozen BK365.out 2; have hfz63_3 := blk_frozen BK365.out 3) | ((with_reducible refine gate_callee (f := 15) rfl ?_); refine goesL_ (some 25) rfl rfl Try.func15 (by kernel_rfl) rfl #[.agg #[.int .i64 t356, .int .i64 t357, .slice Ao55 t358.length co55, .slice Ao56 t361.length co56], .agg #[.int .i64 t366, .int .i64 t367, .slice Ao61 t368.length co61, .slice Ao62 t371.length co62]] rfl z16_3 ?_; (with_reducible refine (hucksterref05_Same.calls k t356 t357 _ _ t358 _ _ t361 t366 t367 _ _ t368 _ _ t371 true _ ?side1 ?side2 ?side3 ?side4 ?side5 ?side6 ?side7 ?side8 A8.out).mono ?_); (case side1 => refine (Kd.R_reads' (e := 3) (base := w.heap.size) (ok := fun k_ => (True ∧ some k_ ≠ (.slice Ao61 t368.length co61 : Value).ownBlock)) (n := t358.length) (c := co55) ?_).2.2; exact z16_30); (case side2 => exact (Kd.R_reads' HO360.out).2.1); (case side3 => refine (Kd.R_reads' (e := 48) (base := w.heap.size) (ok := fun k_ => (True ∧ some k_ ≠ (.slice Ao62 t371.length co62 : Value).ownBlock)) (n := t361.length) (c := co56) ?_).2.2; exact z16_31); (case side4 => exact (Kd.R_reads' HO363.out).2.1); (case side5 => refine (Kd.R_reads' (e := 3) (base := w.heap.size) (ok := fun k_ => (True ∧ some k_ ≠ (.slice Ao55 t358.length co55 : Value).ownBlock)) (n := t368.length) (c := co61) ?_).2.2; exact z16_32); (case side6 => exact (Kd.R_reads' HO370.out).2.1); (case side7 => refine (Kd.R_reads' (e := 48) (base := w.heap.size) (ok := fun k_ => (True ∧ some k_ ≠ (.slice Ao56 t361.length co56 : Value).ownBlock)) (n := t371.length) (c := co62) ?_).2.2; exact z16_33); (case side8 => exact (Kd.R_reads' HO373.out).2.1); rintro e w64 ⟨rfl, hb⟩; refine ⟨_, rfl, ?_⟩; have n0_ := Aside0.mk (Kd.R_below (by (with_reducible repeat (first | apply Kd.R_alloc | apply Kd.R_drewN | apply Kd.R_drew)); exact (Kd.R_mono (Kd.R_far (p := ⟨gb375, 3, none⟩) (Kd.R_far (p := ⟨gb375, 2, none⟩) (Kd.R_far (p := ⟨gb375, 1, none⟩) (Kd.R_far (p := ⟨gb375, 0, none⟩) (Kd.R_types HO355.out BK375.out (by decide)) (fun _ hk => hk.2) (.int .i64 t366)) (fun _ hk => hk.2) (.int .i64 t367)) (fun _ hk => hk.2) (.slice Ao61 t368.length co61)) (fun _ hk => hk.2) (.slice Ao62 t371.length co62)) (fun _ h_ => h_.1))) hb); have n1_ := Aside0.mk (Kd.R_below z16_30 hb); have n2_ := Aside0.mk (Kd.R_below z16_31 hb); have n3_ := Aside0.mk (Kd.R_below z16_32 hb); have n4_ := Aside0.mk (Kd.R_below z16_33 hb); have n5_ := Aside0.mk (blk_below (g := gb365) (o := .cells #[.int .i64 t356, .int .i64 t357, .slice Ao55 t358.length co55, .slice Ao56 t361.length co56] 30 (0, 0)) z16_2 hb); have n6_ := Aside0.mk (blk_below (g := gb375) (o := .cells #[.int .i64 t366, .int .i64 t367, .slice Ao61 t368.length co61, .slice Ao62 t371.length co62] 30 (0, 0)) (by (with_reducible repeat (first | refine blk_drewN ?_ _ | refine blk_drew ?_ | refine blk_alloc ?_ _)); refine blk_put (cs := #[.int .i64 t366, .int .i64 t367, .slice Ao61 t368.length co61, .slice none 0 0]) ?_ 3 _ rfl; (with_reducible repeat (first | refine blk_drewN ?_ _ | refine blk_drew ?_ | refine blk_alloc ?_ _)); refine blk_put (cs := #[.int .i64 t366, .int .i64 t367, .slice none 0 0, .slice none 0 0]) ?_ 2 _ rfl; (with_reducible repeat (first | refine blk_drewN ?_ _ | refine blk_drew ?_ | refine blk_alloc ?_ _)); refine blk_put (cs := #[.int .i64 t366, .int .i64 0, .slice none 0 0, .slice none 0 0]) ?_ 1 _ rfl; (with_reducible repeat (first | refine blk_drewN ?_ _ | refine blk_drew ?_ | refine blk_alloc ?_ _)); refine blk_put (cs := #[.int .i64 0, .int .i64 0, .slice none 0 0, .slice none 0 0]) ?_ 0 _ rfl; (with_reducible repeat (first | refine blk_drewN ?_ _ | refine blk_drew ?_ | refine blk_alloc ?_ _)); exact BK375.out) hb); have n7_ := Aside0.mk (below_step z16_12 hb); clear HO355; clear HO360; clear HO363; clear HO370; clear HO373; clear BK365; clear BK375; clear HB; have HO355 := n0_; have HO360 := n1_; have HO363 := n2_; have HO370 := n3_; have HO373 := n4_; have BK365 := n5_; have BK375 := n6_; have HB := n7_; clear n0_ n1_ n2_ n3_ n4_ n5_ n6_ n7_; (try clear hb); (try clear hb2); (try clear hk); (try clear hi)))
     go_ret
     exact ⟨by first | rfl | (simp [errW_none, errW_some] <;> rfl) | (simp [*, errW_none, errW_some] <;> rfl), by repeat (first | (with_reducible first | exact HB.out | apply below_alloc | apply pw_below_drewN | apply below_drew1 | refine below_set ?_ GE365.out | refine below_set ?_ GE375.out) | exact HB.out)⟩
   ·replace c9 := Bool.eq_false_iff.mpr c9
    subst c9
    have H1 : (some false) = some r := by rw [if_neg (show ¬ (false = true) by decide)] at H; exact H
    clear H
    have H := H1
    clear H1
    obtain rfl := Option.some.inj H
    go_enter Try.func3, Try.ntmps3
    go_wp2_with (first | ((with_reducible refine gate_dst (N := 12) rfl ?_); refine Kd.R_lit (Kd.int .u8) _ 5 ?hg (N := 12) ?hd (xs := ([] : List Int)) (inner := []) (ok := fun _ => True) (okp := fun _ => True) ?hr ?hp (fun _ hk => hk) trivial (Below.refl _ _) (Nat.le_refl _) (by simp) ?_; (case hd => rfl); (case hg => rfl); (case hr => exact z16_13); (case hp => exact (Reps.none _ _)); intro v351 w65 ho66 hb hg_ hnew_; clear hg_ hnew_; (first | rw [← Ny350.out] at ho66 | (simp only [Int.reduceToNat] at ho66; rw [← Ny350.out] at ho66)); have n0_ := Aside0.mk (Kd.R_lower ho66 (below_size z16_0)); have n1_ := Aside0.mk (below_step z16_0 hb); clear HB; have HO352 := n0_; have HB := n1_; clear n0_ n1_; clear hb ho66) | ((with_reducible refine gate_builtin (b := .append) (xs := #[.tmp 12, .tmp 13]) rfl ?_); at_builtin; refine Kd.R_append_rows (Kd.int .u8) (w0 := w) w.heap.size rfl (.tmp 12) (.tmp 13) 22 5 (.int .u8 0) 1 rfl Try.underlying22 info5 rfl (by decide) (by omega) v351 y350 l0 _ _ _ (fun _ => True) (fun _ => False) rfl rfl ?aO ?aR (fun _ _ h => h) (fun _ h => h.elim) ?aF ?aB ?aS ?aL ?_; (case aR => exact z16_14); (case aB => exact z16_0); (case aF => exact (fun _ _ => trivial)); (case aO => exact z16_42); (case aS => exact (below_size z16_0)); (case aL => have := LMc5.out; omega); intro v354 w67 ho hb hg hat; rw [← Ny353.out] at ho; have n0_ := Aside0.mk (hb); have n1_ := Aside0.mk (ho); clear HB; clear HO352; have HB := n0_; have HO355 := n1_; clear n0_ n1_; clear ho hb hg hat; obtain ⟨Ao68, co68, eo68⟩ := Kd.R_slice HO355.out; subst eo68) | ((with_reducible refine gate_callee (f := 13) rfl ?_); refine goesL_ (some 15) rfl rfl Try.func13 (by kernel_rfl) rfl #[.slice Ao68 y353.length co68] rfl z16_3 ?_; (with_reducible refine (event_Get.calls k _ _ y353 t356 t357 t358 t361 t364 _ ?side1 ?side2 A6.out).mono ?_); (case side1 => exact z16_15); (case side2 => exact (Kd.R_reads' HO355.out).2.1); rintro e w69 ⟨v359, v362, rfl, ho0, ho1, hb⟩; refine ⟨_, rfl, ?_⟩; have n0_ := Aside0.mk (Kd.R_below z16_6 hb); have n1_ := Aside0.mk (Kd.R_lower ho0 (below_size z16_0)); have n2_ := Aside0.mk (Kd.R_lower ho1 (below_size z16_0)); have n3_ := Aside0.mk (below_step z16_0 hb); clear HO355; clear HB; have HO355 := n0_; have HO360 := n1_; have HO363 := n2_; have HB := n3_; clear n0_ n1_ n2_ n3_; (try clear hb); (try clear hb2); (try clear hk); (try clear hi); (try clear ho0); (try clear ho1)) | ((with_reducible refine gate_dst (N := 3) rfl ?_); refine box_event ?hg (N := 3) ?hd (cs := #[.int .i64 0, .int .i64 0, .slice none 0 0, .slice none 0 0]) (t := 30) ?hr ?_; (case hd => rfl); (case hg => rfl); (case hr => exact z16_13); intro gb365 hg w70 hbox hb; have n0_ := Aside0.mk (Kd.R_below z16_6 hb); have n1_ := Aside0.mk (Kd.R_below z16_10 hb); have n2_ := Aside0.mk (Kd.R_below z16_11 hb); have n3_ := Aside0.mk (below_step z16_0 hb); have n4_ := Aside0.mk (hbox); have n5_ := Aside0.mk ((by rw [hg]; exact (below_size z16_0) : w.heap.size ≤ gb365)); have n6_ := Aside0.mk ((by rw [hg]; exact (below_size z16_0) : w.heap.size ≤ gb365)); clear HO355; clear HO360; clear HO363; clear HB; have HO355 := n0_; have HO360 := n1_; have HO363 := n2_; have HB := n3_; have BK365 := n4_; have GW365 := n5_; have GE365 := n6_; clear n0_ n1_ n2_ n3_ n4_ n5_ n6_; clear hb hbox hg; have hcz71_0 : w70.cell? ⟨gb365, 0, none⟩ = some (.int .i64 0) := (blk_cell BK365.out 0).trans rfl; have hcz71_1 : w70.cell? ⟨gb365, 1, none⟩ = some (.int .i64 0) := (blk_cell BK365.out 1).trans rfl; have hcz71_2 : w70.cell? ⟨gb365, 2, none⟩ = some (.slice none 0 0) := (blk_cell BK365.out 2).trans rfl; have hcz71_3 : w70.cell? ⟨gb365, 3, none⟩ = some (.slice none 0 0) := (blk_cell BK365.out 3).trans rfl; have hfz71_0 := blk_frozen BK365.out 0; have hfz71_1 := blk_frozen BK365.out 1; have hfz71_2 := blk_frozen BK365.out 2; have hfz71_3 := blk_frozen BK365.out 3; obtain ⟨Ao72, co72, eo72⟩ := Kd.R_slice HO360.out; subst eo72; obtain ⟨Ao73, co73, eo73⟩ := Kd.R_slice HO363.out; subst eo73) | ((with_reducible refine gate_callee (f := 14) rfl ?_); refine goesL_ (some 20) rfl rfl Try.func14 (by kernel_rfl) rfl #[.slice A0 l0.length c0] rfl z16_3 ?_; (with_reducible refine (hucksterref05_Get.calls k _ _ l0 t366 t367 t368 t371 t374 _ ?side1 ?side2 A7.out).mono ?_); (case side1 => exact Kd.C_below HR0.out z16_1); (case side2 => exact HC0.out); rintro e w74 ⟨v369, v372, rfl, ho0, ho1, hb⟩; refine ⟨_, rfl, ?_⟩; have n0_ := Aside0.mk (Kd.R_below (by (with_reducible repeat (first | apply Kd.R_alloc | apply Kd.R_drewN | apply Kd.R_drew)); exact (Kd.R_mono (Kd.R_far (p := ⟨gb365, 3, none⟩) (Kd.R_far (p := ⟨gb365, 2, none⟩) (Kd.R_far (p := ⟨gb365, 1, none⟩) (Kd.R_far (p := ⟨gb365, 0, none⟩) (Kd.R_types HO355.out BK365.out (by decide)) (fun _ hk => hk.2) (.int .i64 t356)) (fun _ hk => hk.2) (.int .i64 t357)) (fun _ hk => hk.2) (.slice Ao72 t358.length co72)) (fun _ hk => hk.2) (.slice Ao73 t361.length co73)) (fun _ h_ => h_.1))) hb); have n1_ := Aside0.mk (Kd.R_elder' z16_34 (Kd.R_base ho0) hb); have n2_ := Aside0.mk (Kd.R_elder' z16_35 (Kd.R_base ho1) hb); have n3_ := Aside0.mk (Kd.R_lower (Kd.R_new' ho0 (Kd.R_lt z16_34)) (below_size z16_1)); have n4_ := Aside0.mk (Kd.R_lower (Kd.R_new' ho1 (Kd.R_lt z16_35)) (below_size z16_1)); have n5_ := Aside0.mk (blk_below (g := gb365) (o := .cells #[.int .i64 t356, .int .i64 t357, .slice Ao72 t358.length co72, .slice Ao73 t361.length co73] 30 (0, 0)) (by (with_reducible repeat (first | refine blk_drewN ?_ _ | refine blk_drew ?_ | refine blk_alloc ?_ _)); refine blk_put (cs := #[.int .i64 t356, .int .i64 t357, .slice Ao72 t358.length co72, .slice none 0 0]) ?_ 3 _ rfl; (with_reducible repeat (first | refine blk_drewN ?_ _ | refine blk_drew ?_ | refine blk_alloc ?_ _)); refine blk_put (cs := #[.int .i64 t356, .int .i64 t357, .slice none 0 0, .slice none 0 0]) ?_ 2 _ rfl; (with_reducible repeat (first | refine blk_drewN ?_ _ | refine blk_drew ?_ | refine blk_alloc ?_ _)); refine blk_put (cs := #[.int .i64 t356, .int .i64 0, .slice none 0 0, .slice none 0 0]) ?_ 1 _ rfl; (with_reducible repeat (first | refine blk_drewN ?_ _ | refine blk_drew ?_ | refine blk_alloc ?_ _)); refine blk_put (cs := #[.int .i64 0, .int .i64 0, .slice none 0 0, .slice none 0 0]) ?_ 0 _ rfl; (with_reducible repeat (first | refine blk_drewN ?_ _ | refine blk_drew ?_ | refine blk_alloc ?_ _)); exact BK365.out) hb); have n6_ := Aside0.mk (below_step z16_1 hb); clear HO355; clear HO360; clear HO363; clear BK365; clear HB; have HO355 := n0_; have HO360 := n1_; have HO363 := n2_; have HO370 := n3_; have HO373 := n4_; have BK365 := n5_; have HB := n6_; clear n0_ n1_ n2_ n3_ n4_ n5_ n6_; (try clear hb); (try clear hb2); (try clear hk); (try clear hi); (try clear ho0); (try clear ho1)) | ((with_reducible refine gate_dst (N := 5) rfl ?_); refine box_event ?hg (N := 5) ?hd (cs := #[.int .i64 0, .int .i64 0, .slice none 0 0, .slice none 0 0]) (t := 30) ?hr ?_; (case hd => rfl); (case hg => rfl); (case hr => exact z16_13); intro gb375 hg w75 hbox hb; have n0_ := Aside0.mk (Kd.R_below z16_6 hb); have n1_ := Aside0.mk (Kd.R_below z16_10 hb); have n2_ := Aside0.mk (Kd.R_below z16_11 hb); have n3_ := Aside0.mk (Kd.R_below z16_40 hb); have n4_ := Aside0.mk (Kd.R_below z16_41 hb); have n5_ := Aside0.mk (blk_below (g := gb365) (o := .cells #[.int .i64 t356, .int .i64 t357, .slice Ao72 t358.length co72, .slice Ao73 t361.length co73] 30 (0, 0)) z16_4 hb); have n6_ := Aside0.mk (below_step z16_1 hb); have n7_ := Aside0.mk (hbox); have n8_ := Aside0.mk ((by rw [hg]; exact (below_size z16_1) : w.heap.size ≤ gb375)); have n9_ := Aside0.mk ((by rw [hg]; exact (below_size z16_1) : w.heap.size ≤ gb375)); have n10_ := Aside0.mk ((by rw [hg]; exact Nat.ne_of_lt (blk_lt (g := gb365) (o := .cells #[.int .i64 t356, .int .i64 t357, .slice Ao72 t358.length co72, .slice Ao73 t361.length co73] 30 (0, 0)) z16_4) : gb365 ≠ gb375)); have n11_ := Aside0.mk ((by rw [hg]; exact Nat.ne_of_gt (blk_lt (g := gb365) (o := .cells #[.int .i64 t356, .int .i64 t357, .slice Ao72 t358.length co72, .slice Ao73 t361.length co73] 30 (0, 0)) z16_4) : gb375 ≠ gb365)); clear HO355; clear HO360; clear HO363; clear HO370; clear HO373; clear BK365; clear HB; have HO355 := n0_; have HO360 := n1_; have HO363 := n2_; have HO370 := n3_; have HO373 := n4_; have BK365 := n5_; have HB := n6_; have BK375 := n7_; have GW375 := n8_; have GE375 := n9_; have NB365_375 := n10_; have NB375_365 := n11_; clear n0_ n1_ n2_ n3_ n4_ n5_ n6_ n7_ n8_ n9_ n10_ n11_; clear hb hbox hg; have hnb76 := NB375_365.out; have hnc76 := NB365_375.out; have hcz77_0 : w75.cell? ⟨gb375, 0, none⟩ = some (.int .i64 0) := (blk_cell BK375.out 0).trans rfl; have hcz77_1 : w75.cell? ⟨gb375, 1, none⟩ = some (.int .i64 0) := (blk_cell BK375.out 1).trans rfl; have hcz77_2 : w75.cell? ⟨gb375, 2, none⟩ = some (.slice none 0 0) := (blk_cell BK375.out 2).trans rfl; have hcz77_3 : w75.cell? ⟨gb375, 3, none⟩ = some (.slice none 0 0) := (blk_cell BK375.out 3).trans rfl; have hfz77_0 := blk_frozen BK375.out 0; have hfz77_1 := blk_frozen BK375.out 1; have hfz77_2 := blk_frozen BK375.out 2; have hfz77_3 := blk_frozen BK375.out 3; obtain ⟨Ao78, co78, eo78⟩ := Kd.R_slice HO370.out; subst eo78; obtain ⟨Ao79, co79, eo79⟩ := Kd.R_slice HO373.out; subst eo79; have hcz80_0 : w75.cell? ⟨gb365, 0, none⟩ = some (.int .i64 t356) := (blk_cell BK365.out 0).trans rfl; have hcz80_1 : w75.cell? ⟨gb365, 1, none⟩ = some (.int .i64 t357) := (blk_cell BK365.out 1).trans rfl; have hcz80_2 : w75.cell? ⟨gb365, 2, none⟩ = some (.slice Ao72 t358.length co72) := (blk_cell BK365.out 2).trans rfl; have hcz80_3 : w75.cell? ⟨gb365, 3, none⟩ = some (.slice Ao73 t361.length co73) := (blk_cell BK365.out 3).trans rfl; have hfz80_0 := blk_frozen BK365.out 0; have hfz80_1 := blk_frozen BK365.out 1; have hfz80_2 := blk_frozen BK365.out 2; have hfz80_3 := blk_frozen BK365.out 3) | ((with_reducible refine gate_callee (f := 15) rfl ?_); refine goesL_ (some 25) rfl rfl Try.func15 (by kernel_rfl) rfl #[.agg #[.int .i64 t356, .int .i64 t357, .slice Ao72 t358.length co72, .slice Ao73 t361.length co73], .agg #[.int .i64 t366, .int .i64 t367, .slice Ao78 t368.length co78, .slice Ao79 t371.length co79]] rfl z16_3 ?_; (with_reducible refine (hucksterref05_Same.calls k t356 t357 _ _ t358 _ _ t361 t366 t367 _ _ t368 _ _ t371 false _ ?side1 ?side2 ?side3 ?side4 ?side5 ?side6 ?side7 ?side8 A8.out).mono ?_); (case side1 => refine (Kd.R_reads' (e := 3) (base := w.heap.size) (ok := fun k_ => (True ∧ some k_ ≠ (.slice Ao78 t368.length co78 : Value).ownBlock)) (n := t358.length) (c := co72) ?_).2.2; exact z16_36); (case side2 => exact (Kd.R_reads' HO360.out).2.1); (case side3 => refine (Kd.R_reads' (e := 48) (base := w.heap.size) (ok := fun k_ => (True ∧ some k_ ≠ (.slice Ao79 t371.length co79 : Value).ownBlock)) (n := t361.length) (c := co73) ?_).2.2; exact z16_37); (case side4 => exact (Kd.R_reads' HO363.out).2.1); (case side5 => refine (Kd.R_reads' (e := 3) (base := w.heap.size) (ok := fun k_ => (True ∧ some k_ ≠ (.slice Ao72 t358.length co72 : Value).ownBlock)) (n := t368.length) (c := co78) ?_).2.2; exact z16_38); (case side6 => exact (Kd.R_reads' HO370.out).2.1); (case side7 => refine (Kd.R_reads' (e := 48) (base := w.heap.size) (ok := fun k_ => (True ∧ some k_ ≠ (.slice Ao73 t361.length co73 : Value).ownBlock)) (n := t371.length) (c := co79) ?_).2.2; exact z16_39); (case side8 => exact (Kd.R_reads' HO373.out).2.1); rintro e w81 ⟨rfl, hb⟩; refine ⟨_, rfl, ?_⟩; have n0_ := Aside0.mk (Kd.R_below (by (with_reducible repeat (first | apply Kd.R_alloc | apply Kd.R_drewN | apply Kd.R_drew)); exact (Kd.R_mono (Kd.R_far (p := ⟨gb375, 3, none⟩) (Kd.R_far (p := ⟨gb375, 2, none⟩) (Kd.R_far (p := ⟨gb375, 1, none⟩) (Kd.R_far (p := ⟨gb375, 0, none⟩) (Kd.R_types HO355.out BK375.out (by decide)) (fun _ hk => hk.2) (.int .i64 t366)) (fun _ hk => hk.2) (.int .i64 t367)) (fun _ hk => hk.2) (.slice Ao78 t368.length co78)) (fun _ hk => hk.2) (.slice Ao79 t371.length co79)) (fun _ h_ => h_.1))) hb); have n1_ := Aside0.mk (Kd.R_below z16_36 hb); have n2_ := Aside0.mk (Kd.R_below z16_37 hb); have n3_ := Aside0.mk (Kd.R_below z16_38 hb); have n4_ := Aside0.mk (Kd.R_below z16_39 hb); have n5_ := Aside0.mk (blk_below (g := gb365) (o := .cells #[.int .i64 t356, .int .i64 t357, .slice Ao72 t358.length co72, .slice Ao73 t361.length co73] 30 (0, 0)) z16_2 hb); have n6_ := Aside0.mk (blk_below (g := gb375) (o := .cells #[.int .i64 t366, .int .i64 t367, .slice Ao78 t368.length co78, .slice Ao79 t371.length co79] 30 (0, 0)) (by (with_reducible repeat (first | refine blk_drewN ?_ _ | refine blk_drew ?_ | refine blk_alloc ?_ _)); refine blk_put (cs := #[.int .i64 t366, .int .i64 t367, .slice Ao78 t368.length co78, .slice none 0 0]) ?_ 3 _ rfl; (with_reducible repeat (first | refine blk_drewN ?_ _ | refine blk_drew ?_ | refine blk_alloc ?_ _)); refine blk_put (cs := #[.int .i64 t366, .int .i64 t367, .slice none 0 0, .slice none 0 0]) ?_ 2 _ rfl; (with_reducible repeat (first | refine blk_drewN ?_ _ | refine blk_drew ?_ | refine blk_alloc ?_ _)); refine blk_put (cs := #[.int .i64 t366, .int .i64 0, .slice none 0 0, .slice none 0 0]) ?_ 1 _ rfl; (with_reducible repeat (first | refine blk_drewN ?_ _ | refine blk_drew ?_ | refine blk_alloc ?_ _)); refine blk_put (cs := #[.int .i64 0, .int .i64 0, .slice none 0 0, .slice none 0 0]) ?_ 0 _ rfl; (with_reducible repeat (first | refine blk_drewN ?_ _ | refine blk_drew ?_ | refine blk_alloc ?_ _)); exact BK375.out) hb); have n7_ := Aside0.mk (below_step z16_12 hb); clear HO355; clear HO360; clear HO363; clear HO370; clear HO373; clear BK365; clear BK375; clear HB; have HO355 := n0_; have HO360 := n1_; have HO363 := n2_; have HO370 := n3_; have HO373 := n4_; have BK365 := n5_; have BK375 := n6_; have HB := n7_; clear n0_ n1_ n2_ n3_ n4_ n5_ n6_ n7_; (try clear hb); (try clear hb2); (try clear hk); (try clear hi)))
    go_ret
    exact ⟨by first | rfl | (simp [errW_none, errW_some] <;> rfl) | (simp [*, errW_none, errW_some] <;> rfl), by repeat (first | (with_reducible first | exact HB.out | apply below_alloc | apply pw_below_drewN | apply below_drew1 | refine below_set ?_ GE365.out | refine below_set ?_ GE375.out) | exact HB.out)⟩
  ·rw [if_neg c5] at H
   exact absurd H (by simp)
def hucksterlaw05_EventGets.Pure : Prop := ∀ (l0 : List Int), l0.length ≤ maxLen → l0.length * 1 ≤ 140737488351232 → (∀ x ∈ l0, (Lit.int .u8 x).wf = true) → ∃ k, hucksterlaw05_EventGets.f k l0 = some true
theorem hucksterlaw05_EventGets.walk (P : hucksterlaw05_EventGets.Pure) (a0 : Option Addr) (len0 cap0 : Nat) (z0 : List Int) (w : World) (w0 : (a0 = none ∧ len0 = 0 ∧ cap0 = 0 ∧ z0 = []) ∨ ∃ x, a0 = some x ∧ len0 ≤ cap0 ∧ cap0 ≤ maxLen ∧ z0.length = cap0 ∧ (∀ i, i < z0.length → w.cell? (x.add i) = some (.int .u8 (z0.getD i 0))) ∧ ∀ n ∈ z0, (Lit.int .u8 n).wf = true) (y0 : len0 * 1 ≤ 140737488351232) :
  Calls Try.prog 3 #[.slice a0 len0 cap0] w fun e w' => e = .returned (.bool true) ∧ Below w.heap.size w w' := by
 obtain ⟨l0, rfl, hr0, hm0, hw0, hc0⟩ := ReadsInt.ofRowC w0
 obtain ⟨k, h⟩ := P l0 hm0 y0 hw0
 refine (hucksterlaw05_EventGets.calls k _ _ l0 true w (Kd.C_of_reads (d := (0 : Int)) (h1 := fun _ => rfl) hr0) hc0 h).mono ?_
 rintro e w' ⟨rfl, hd⟩
 exact ⟨rfl, hd⟩
end Go.Proofs.Ytgocnchjpecafaa.PEv
