/- a part -/
import Derived.Test.YtgocnchjpecafaaPEvx0
import Derived.Test.YtgocnchjpecafaaPEvx10
import Derived.Test.YtgocnchjpecafaaPEvx12
import Derived.Test.YtgocnchjpecafaaPEvx17
import Derived.Test.YtgocnchjpecafaaPEvx19
import Derived.Test.YtgocnchjpecafaaPEvx25
import Derived.Test.YtgocnchjpecafaaPEvx27
import Derived.Test.YtgocnchjpecafaaPEvx29
namespace Go.Proofs.Ytgocnchjpecafaa.PEv
open Go.RowKit Go.Proofs.YtgocnchjpecafaaW.PrintWords Go.Proofs.YtgocnchjpecafaaW.PrintLast Go.Proofs.YtgocnchjpecafaaW.PrintMore
attribute [local go_sem] max2_int min2_int max_two min_two max_three min_three max_four min_four
set_option linter.unusedVariables false
set_option linter.unusedSimpArgs false
theorem z30_0 {P:Prop} (h:P:=by repeat(first|(with_reducible first|exact HB.out|apply below_alloc|apply pw_below_drewN|apply below_drew1)|exact HB.out)):P:=h
theorem z30_1 {P:Prop} (h:P:=by repeat(first|(with_reducible first|exact HB.out|apply below_alloc|apply pw_below_drewN|apply below_drew1|refine below_set ?_ GE625.out)|exact HB.out)):P:=h
theorem z30_2 {P:Prop} (h:P:=by(try simp only [List.map_toArray,List.map_cons,List.map_nil]);first|done|rfl|(simp only [List.length_drop,List.length_take];rfl)):P:=h
theorem z30_3 {P:Prop} (h:P:=by simp only [Act.put,List.setIfInBounds_toArray,List.set_cons_zero,List.set_cons_succ,i64_w,i32_w];rfl):P:=h
theorem z30_4 {P:Prop} (h:P:=by(with_reducible repeat(first|apply Kd.R_alloc|apply Kd.R_drewN|apply Kd.R_drew));exact HO616.out):P:=h
theorem z30_5 {P:Prop} (h:P:=by(with_reducible repeat(first|refine blk_drewN ?_ _|refine blk_drew ?_|refine blk_alloc ?_ _));refine blk_far ?_ NB625_634.out _;(with_reducible repeat(first|refine blk_drewN ?_ _|refine blk_drew ?_|refine blk_alloc ?_ _));refine blk_far ?_ NB625_634.out _;(with_reducible repeat(first|refine blk_drewN ?_ _|refine blk_drew ?_|refine blk_alloc ?_ _));refine blk_far ?_ NB625_634.out _;(with_reducible repeat(first|refine blk_drewN ?_ _|refine blk_drew ?_|refine blk_alloc ?_ _));exact BK625.out):P:=h
theorem z30_6 {P:Prop} (h:P:=by repeat(first|(with_reducible first|exact HB.out|apply below_alloc|apply pw_below_drewN|apply below_drew1|refine below_set ?_ GE625.out|refine below_set ?_ GE634.out)|exact HB.out)):P:=h
theorem z30_7 {P:Prop} (h:P:=by(with_reducible repeat(first|refine blk_drewN ?_ _|refine blk_drew ?_|refine blk_alloc ?_ _));exact BK625.out):P:=h
theorem z30_8 {P:Prop} (h:P:=by repeat(first|(with_reducible first|exact HB.out|apply below_alloc|apply pw_below_drewN|apply below_drew1|refine below_set ?_ GE606.out)|exact HB.out)):P:=h
theorem z30_9 {P:Prop} (h:P:=by(with_reducible repeat(first|refine blk_drewN ?_ _|refine blk_drew ?_|refine blk_alloc ?_ _));exact BK606.out):P:=h
theorem z30_10 {P:Prop} (h:P:=by repeat(first|(with_reducible first|exact HB.out|apply below_alloc|apply pw_below_drewN|apply below_drew1|refine below_set ?_ GE606.out|refine below_set ?_ GE607.out)|exact HB.out)):P:=h
theorem z30_11 {P:Prop} (h:P:=by first|rfl|(simp [errW_none,errW_some]<;>rfl)|(simp [*,errW_none,errW_some]<;>rfl)):P:=h
theorem z30_12 {P:Prop} (h:P:=by(with_reducible repeat(first|apply Kd.R_alloc|apply Kd.R_drewN|apply Kd.R_drew));exact(Kd.R_mono (Kd.R_far (p:=⟨gb625,2,none⟩) (Kd.R_far (p:=⟨gb625,1,none⟩) (Kd.R_far (p:=⟨gb625,0,none⟩) (Kd.R_types HO619.out BK625.out (by decide)) (fun _ hk=>hk.2) (.slice Ao19 t617.length co19)) (fun _ hk=>hk.2) (.bool t620)) (fun _ hk=>hk.2) (.slice Ao21 t621.length co21)) (fun _ h_=>h_.1))):P:=h
theorem z30_13 {P:Prop} (h:P:=by(with_reducible repeat(first|apply Kd.R_alloc|apply Kd.R_drewN|apply Kd.R_drew));exact(Kd.R_mono (Kd.R_far (p:=⟨gb625,2,none⟩) (Kd.R_far (p:=⟨gb625,1,none⟩) (Kd.R_far (p:=⟨gb625,0,none⟩) (Kd.R_types HO619.out BK625.out (by decide)) (fun _ hk=>hk.2) (.slice Ao37 t617.length co37)) (fun _ hk=>hk.2) (.bool t620)) (fun _ hk=>hk.2) (.slice Ao39 t621.length co39)) (fun _ h_=>h_.1))):P:=h
theorem z30_14 {P:Prop} (h:P:=by(with_reducible repeat(first|apply Kd.R_alloc|apply Kd.R_drewN|apply Kd.R_drew));exact(Kd.R_mono (Kd.R_far (p:=⟨gb625,2,none⟩) (Kd.R_far (p:=⟨gb625,1,none⟩) (Kd.R_far (p:=⟨gb625,0,none⟩) (Kd.R_types HO619.out BK625.out (by decide)) (fun _ hk=>hk.2) (.slice Ao54 t617.length co54)) (fun _ hk=>hk.2) (.bool t620)) (fun _ hk=>hk.2) (.slice Ao56 t621.length co56)) (fun _ h_=>h_.1))):P:=h
theorem z30_15 {P:Prop} (h:P:=by(with_reducible repeat(first|apply Kd.R_alloc|apply Kd.R_drewN|apply Kd.R_drew));exact(Kd.R_mono (Kd.R_far (p:=⟨gb625,2,none⟩) (Kd.R_far (p:=⟨gb625,1,none⟩) (Kd.R_far (p:=⟨gb625,0,none⟩) (Kd.R_types HO619.out BK625.out (by decide)) (fun _ hk=>hk.2) (.slice Ao71 t617.length co71)) (fun _ hk=>hk.2) (.bool t620)) (fun _ hk=>hk.2) (.slice Ao73 t621.length co73)) (fun _ h_=>h_.1))):P:=h
theorem z30_16 {P:Prop} (h:P:=by(with_reducible repeat(first|apply Kd.R_alloc|apply Kd.R_drewN|apply Kd.R_drew));exact HO619.out):P:=h
theorem z30_17 {P:Prop} (h:P:=by(with_reducible repeat(first|apply Kd.N_alloc|apply Kd.N_drewN|apply Kd.N_drew));exact HO623.out):P:=h
theorem z30_18 {P:Prop} (h:P:=by(with_reducible repeat(first|refine blk_drewN ?_ _|refine blk_drew ?_|refine blk_alloc ?_ _));refine blk_put (cs:=#[.slice Ao19 t617.length co19,.bool t620,.slice none 0 0]) ?_ 2 _ rfl;(with_reducible repeat(first|refine blk_drewN ?_ _|refine blk_drew ?_|refine blk_alloc ?_ _));refine blk_put (cs:=#[.slice Ao19 t617.length co19,.bool false,.slice none 0 0]) ?_ 1 _ rfl;(with_reducible repeat(first|refine blk_drewN ?_ _|refine blk_drew ?_|refine blk_alloc ?_ _));refine blk_put (cs:=#[.slice none 0 0,.bool false,.slice none 0 0]) ?_ 0 _ rfl;(with_reducible repeat(first|refine blk_drewN ?_ _|refine blk_drew ?_|refine blk_alloc ?_ _));exact BK625.out):P:=h
theorem z30_19 {P:Prop} (h:P:=by(with_reducible repeat(first|refine blk_drewN ?_ _|refine blk_drew ?_|refine blk_alloc ?_ _));refine blk_put (cs:=#[.slice Ao37 t617.length co37,.bool t620,.slice none 0 0]) ?_ 2 _ rfl;(with_reducible repeat(first|refine blk_drewN ?_ _|refine blk_drew ?_|refine blk_alloc ?_ _));refine blk_put (cs:=#[.slice Ao37 t617.length co37,.bool false,.slice none 0 0]) ?_ 1 _ rfl;(with_reducible repeat(first|refine blk_drewN ?_ _|refine blk_drew ?_|refine blk_alloc ?_ _));refine blk_put (cs:=#[.slice none 0 0,.bool false,.slice none 0 0]) ?_ 0 _ rfl;(with_reducible repeat(first|refine blk_drewN ?_ _|refine blk_drew ?_|refine blk_alloc ?_ _));exact BK625.out):P:=h
theorem z30_20 {P:Prop} (h:P:=by(with_reducible repeat(first|refine blk_drewN ?_ _|refine blk_drew ?_|refine blk_alloc ?_ _));refine blk_put (cs:=#[.slice Ao54 t617.length co54,.bool t620,.slice none 0 0]) ?_ 2 _ rfl;(with_reducible repeat(first|refine blk_drewN ?_ _|refine blk_drew ?_|refine blk_alloc ?_ _));refine blk_put (cs:=#[.slice Ao54 t617.length co54,.bool false,.slice none 0 0]) ?_ 1 _ rfl;(with_reducible repeat(first|refine blk_drewN ?_ _|refine blk_drew ?_|refine blk_alloc ?_ _));refine blk_put (cs:=#[.slice none 0 0,.bool false,.slice none 0 0]) ?_ 0 _ rfl;(with_reducible repeat(first|refine blk_drewN ?_ _|refine blk_drew ?_|refine blk_alloc ?_ _));exact BK625.out):P:=h
theorem z30_21 {P:Prop} (h:P:=by(with_reducible repeat(first|refine blk_drewN ?_ _|refine blk_drew ?_|refine blk_alloc ?_ _));refine blk_put (cs:=#[.slice Ao71 t617.length co71,.bool t620,.slice none 0 0]) ?_ 2 _ rfl;(with_reducible repeat(first|refine blk_drewN ?_ _|refine blk_drew ?_|refine blk_alloc ?_ _));refine blk_put (cs:=#[.slice Ao71 t617.length co71,.bool false,.slice none 0 0]) ?_ 1 _ rfl;(with_reducible repeat(first|refine blk_drewN ?_ _|refine blk_drew ?_|refine blk_alloc ?_ _));refine blk_put (cs:=#[.slice none 0 0,.bool false,.slice none 0 0]) ?_ 0 _ rfl;(with_reducible repeat(first|refine blk_drewN ?_ _|refine blk_drew ?_|refine blk_alloc ?_ _));exact BK625.out):P:=h
theorem z30_22 {P:Prop} (h:P:=by first|(go_simp;done)|(go_simp;rfl)):P:=h
theorem z30_23 {P:Prop} (h:P:=by repeat(first|exact(Kd.C_below HR0.out HB.out)|(with_reducible refine Kd.C_alloc ?_ _)|(with_reducible refine Kd.C_drewN ?_ _)|(with_reducible refine Kd.C_drew ?_))):P:=h
theorem z30_24 {P:Prop} (h:P:=by repeat(first|exact(Kd.R_reads' HO616.out).2.2|(with_reducible refine Kd.C_alloc ?_ _)|(with_reducible refine Kd.C_drewN ?_ _)|(with_reducible refine Kd.C_drew ?_))):P:=h
theorem z30_25 {P:Prop} (h:P:=by(with_reducible repeat(first|apply Kd.N_alloc|apply Kd.N_drewN|apply Kd.N_drew));exact(Kd.N_mono (Kd.N_far (p:=⟨gb625,2,none⟩) (Kd.N_far (p:=⟨gb625,1,none⟩) (Kd.N_far (p:=⟨gb625,0,none⟩) (Kd.N_mono HO623.out (fun k_ hk=>(⟨hk,hk.2⟩:_∧k_≠gb625))) (fun _ hk=>hk.2) (.slice Ao19 t617.length co19)) (fun _ hk=>hk.2) (.bool t620)) (fun _ hk=>hk.2) (.slice Ao21 t621.length co21)) (fun _ h_=>h_.1))):P:=h
theorem z30_26 {P:Prop} (h:P:=by(with_reducible repeat(first|apply Kd.N_alloc|apply Kd.N_drewN|apply Kd.N_drew));exact(Kd.N_mono (Kd.N_far (p:=⟨gb634,2,none⟩) (Kd.N_far (p:=⟨gb634,1,none⟩) (Kd.N_far (p:=⟨gb634,0,none⟩) (Kd.N_mono HO623.out (fun k_ hk=>(⟨hk,hk.2⟩:_∧k_≠gb634))) (fun _ hk=>hk.2) (.slice Ao24 t626.length co24)) (fun _ hk=>hk.2) (.bool t629)) (fun _ hk=>hk.2) (.slice Ao27 t630.length co27)) (fun _ h_=>h_.1))):P:=h
theorem z30_27 {P:Prop} (h:P:=by(with_reducible repeat(first|apply Kd.N_alloc|apply Kd.N_drewN|apply Kd.N_drew));exact(Kd.N_mono (Kd.N_far (p:=⟨gb634,2,none⟩) (Kd.N_far (p:=⟨gb634,1,none⟩) (Kd.N_far (p:=⟨gb634,0,none⟩) (Kd.N_mono HO632.out (fun k_ hk=>(⟨hk,hk.2⟩:_∧k_≠gb634))) (fun _ hk=>hk.2) (.slice Ao24 t626.length co24)) (fun _ hk=>hk.2) (.bool t629)) (fun _ hk=>hk.2) (.slice Ao27 t630.length co27)) (fun _ h_=>h_.1))):P:=h
theorem z30_28 {P:Prop} (h:P:=by(with_reducible repeat(first|apply Kd.N_alloc|apply Kd.N_drewN|apply Kd.N_drew));exact(Kd.N_mono (Kd.N_far (p:=⟨gb625,2,none⟩) (Kd.N_far (p:=⟨gb625,1,none⟩) (Kd.N_far (p:=⟨gb625,0,none⟩) (Kd.N_mono HO623.out (fun k_ hk=>(⟨hk,hk.2⟩:_∧k_≠gb625))) (fun _ hk=>hk.2) (.slice Ao37 t617.length co37)) (fun _ hk=>hk.2) (.bool t620)) (fun _ hk=>hk.2) (.slice Ao39 t621.length co39)) (fun _ h_=>h_.1))):P:=h
theorem z30_29 {P:Prop} (h:P:=by(with_reducible repeat(first|apply Kd.N_alloc|apply Kd.N_drewN|apply Kd.N_drew));exact(Kd.N_mono (Kd.N_far (p:=⟨gb634,2,none⟩) (Kd.N_far (p:=⟨gb634,1,none⟩) (Kd.N_far (p:=⟨gb634,0,none⟩) (Kd.N_mono HO623.out (fun k_ hk=>(⟨hk,hk.2⟩:_∧k_≠gb634))) (fun _ hk=>hk.2) (.slice Ao42 t626.length co42)) (fun _ hk=>hk.2) (.bool t629)) (fun _ hk=>hk.2) (.slice Ao45 t630.length co45)) (fun _ h_=>h_.1))):P:=h
theorem z30_30 {P:Prop} (h:P:=by(with_reducible repeat(first|apply Kd.N_alloc|apply Kd.N_drewN|apply Kd.N_drew));exact(Kd.N_mono (Kd.N_far (p:=⟨gb634,2,none⟩) (Kd.N_far (p:=⟨gb634,1,none⟩) (Kd.N_far (p:=⟨gb634,0,none⟩) (Kd.N_mono HO632.out (fun k_ hk=>(⟨hk,hk.2⟩:_∧k_≠gb634))) (fun _ hk=>hk.2) (.slice Ao42 t626.length co42)) (fun _ hk=>hk.2) (.bool t629)) (fun _ hk=>hk.2) (.slice Ao45 t630.length co45)) (fun _ h_=>h_.1))):P:=h
theorem z30_31 {P:Prop} (h:P:=by(with_reducible repeat(first|apply Kd.N_alloc|apply Kd.N_drewN|apply Kd.N_drew));exact(Kd.N_mono (Kd.N_far (p:=⟨gb625,2,none⟩) (Kd.N_far (p:=⟨gb625,1,none⟩) (Kd.N_far (p:=⟨gb625,0,none⟩) (Kd.N_mono HO623.out (fun k_ hk=>(⟨hk,hk.2⟩:_∧k_≠gb625))) (fun _ hk=>hk.2) (.slice Ao54 t617.length co54)) (fun _ hk=>hk.2) (.bool t620)) (fun _ hk=>hk.2) (.slice Ao56 t621.length co56)) (fun _ h_=>h_.1))):P:=h
theorem z30_32 {P:Prop} (h:P:=by(with_reducible repeat(first|apply Kd.N_alloc|apply Kd.N_drewN|apply Kd.N_drew));exact(Kd.N_mono (Kd.N_far (p:=⟨gb634,2,none⟩) (Kd.N_far (p:=⟨gb634,1,none⟩) (Kd.N_far (p:=⟨gb634,0,none⟩) (Kd.N_mono HO623.out (fun k_ hk=>(⟨hk,hk.2⟩:_∧k_≠gb634))) (fun _ hk=>hk.2) (.slice Ao59 t626.length co59)) (fun _ hk=>hk.2) (.bool t629)) (fun _ hk=>hk.2) (.slice Ao62 t630.length co62)) (fun _ h_=>h_.1))):P:=h
theorem z30_33 {P:Prop} (h:P:=by(with_reducible repeat(first|apply Kd.N_alloc|apply Kd.N_drewN|apply Kd.N_drew));exact(Kd.N_mono (Kd.N_far (p:=⟨gb634,2,none⟩) (Kd.N_far (p:=⟨gb634,1,none⟩) (Kd.N_far (p:=⟨gb634,0,none⟩) (Kd.N_mono HO632.out (fun k_ hk=>(⟨hk,hk.2⟩:_∧k_≠gb634))) (fun _ hk=>hk.2) (.slice Ao59 t626.length co59)) (fun _ hk=>hk.2) (.bool t629)) (fun _ hk=>hk.2) (.slice Ao62 t630.length co62)) (fun _ h_=>h_.1))):P:=h
theorem z30_34 {P:Prop} (h:P:=by(with_reducible repeat(first|apply Kd.N_alloc|apply Kd.N_drewN|apply Kd.N_drew));exact(Kd.N_mono (Kd.N_far (p:=⟨gb625,2,none⟩) (Kd.N_far (p:=⟨gb625,1,none⟩) (Kd.N_far (p:=⟨gb625,0,none⟩) (Kd.N_mono HO623.out (fun k_ hk=>(⟨hk,hk.2⟩:_∧k_≠gb625))) (fun _ hk=>hk.2) (.slice Ao71 t617.length co71)) (fun _ hk=>hk.2) (.bool t620)) (fun _ hk=>hk.2) (.slice Ao73 t621.length co73)) (fun _ h_=>h_.1))):P:=h
theorem z30_35 {P:Prop} (h:P:=by(with_reducible repeat(first|apply Kd.N_alloc|apply Kd.N_drewN|apply Kd.N_drew));exact(Kd.N_mono (Kd.N_far (p:=⟨gb634,2,none⟩) (Kd.N_far (p:=⟨gb634,1,none⟩) (Kd.N_far (p:=⟨gb634,0,none⟩) (Kd.N_mono HO623.out (fun k_ hk=>(⟨hk,hk.2⟩:_∧k_≠gb634))) (fun _ hk=>hk.2) (.slice Ao76 t626.length co76)) (fun _ hk=>hk.2) (.bool t629)) (fun _ hk=>hk.2) (.slice Ao79 t630.length co79)) (fun _ h_=>h_.1))):P:=h
theorem z30_36 {P:Prop} (h:P:=by(with_reducible repeat(first|apply Kd.N_alloc|apply Kd.N_drewN|apply Kd.N_drew));exact(Kd.N_mono (Kd.N_far (p:=⟨gb634,2,none⟩) (Kd.N_far (p:=⟨gb634,1,none⟩) (Kd.N_far (p:=⟨gb634,0,none⟩) (Kd.N_mono HO632.out (fun k_ hk=>(⟨hk,hk.2⟩:_∧k_≠gb634))) (fun _ hk=>hk.2) (.slice Ao76 t626.length co76)) (fun _ hk=>hk.2) (.bool t629)) (fun _ hk=>hk.2) (.slice Ao79 t630.length co79)) (fun _ h_=>h_.1))):P:=h
theorem z30_37 {P:Prop} (h:P:=by(with_reducible repeat(first|apply Kd.R_alloc|apply Kd.R_drewN|apply Kd.R_drew));exact(Kd.R_mono (Kd.R_far (p:=⟨gb625,2,none⟩) (Kd.R_far (p:=⟨gb625,1,none⟩) (Kd.R_far (p:=⟨gb625,0,none⟩) (Kd.R_types HO616.out BK625.out (by decide)) (fun _ hk=>hk.2) (.slice Ao19 t617.length co19)) (fun _ hk=>hk.2) (.bool t620)) (fun _ hk=>hk.2) (.slice Ao21 t621.length co21)) (fun _ h_=>h_.1))):P:=h
theorem z30_38 {P:Prop} (h:P:=by(with_reducible repeat(first|apply Kd.R_alloc|apply Kd.R_drewN|apply Kd.R_drew));exact(Kd.R_mono (Kd.R_far (p:=⟨gb634,2,none⟩) (Kd.R_far (p:=⟨gb634,1,none⟩) (Kd.R_far (p:=⟨gb634,0,none⟩) (Kd.R_types HO619.out BK634.out (by decide)) (fun _ hk=>hk.2) (.slice Ao24 t626.length co24)) (fun _ hk=>hk.2) (.bool t629)) (fun _ hk=>hk.2) (.slice Ao27 t630.length co27)) (fun _ h_=>h_.1))):P:=h
theorem z30_39 {P:Prop} (h:P:=by(with_reducible repeat(first|apply Kd.R_alloc|apply Kd.R_drewN|apply Kd.R_drew));exact(Kd.R_mono (Kd.R_far (p:=⟨gb634,2,none⟩) (Kd.R_far (p:=⟨gb634,1,none⟩) (Kd.R_far (p:=⟨gb634,0,none⟩) (Kd.R_types HO628.out BK634.out (by decide)) (fun _ hk=>hk.2) (.slice Ao24 t626.length co24)) (fun _ hk=>hk.2) (.bool t629)) (fun _ hk=>hk.2) (.slice Ao27 t630.length co27)) (fun _ h_=>h_.1))):P:=h
theorem z30_40 {P:Prop} (h:P:=by(with_reducible repeat(first|apply Kd.R_alloc|apply Kd.R_drewN|apply Kd.R_drew));exact(Kd.R_mono (Kd.R_far (p:=⟨gb625,2,none⟩) (Kd.R_far (p:=⟨gb625,1,none⟩) (Kd.R_far (p:=⟨gb625,0,none⟩) (Kd.R_types HO616.out BK625.out (by decide)) (fun _ hk=>hk.2) (.slice Ao37 t617.length co37)) (fun _ hk=>hk.2) (.bool t620)) (fun _ hk=>hk.2) (.slice Ao39 t621.length co39)) (fun _ h_=>h_.1))):P:=h
theorem z30_41 {P:Prop} (h:P:=by(with_reducible repeat(first|apply Kd.R_alloc|apply Kd.R_drewN|apply Kd.R_drew));exact(Kd.R_mono (Kd.R_far (p:=⟨gb634,2,none⟩) (Kd.R_far (p:=⟨gb634,1,none⟩) (Kd.R_far (p:=⟨gb634,0,none⟩) (Kd.R_types HO619.out BK634.out (by decide)) (fun _ hk=>hk.2) (.slice Ao42 t626.length co42)) (fun _ hk=>hk.2) (.bool t629)) (fun _ hk=>hk.2) (.slice Ao45 t630.length co45)) (fun _ h_=>h_.1))):P:=h
theorem z30_42 {P:Prop} (h:P:=by(with_reducible repeat(first|apply Kd.R_alloc|apply Kd.R_drewN|apply Kd.R_drew));exact(Kd.R_mono (Kd.R_far (p:=⟨gb634,2,none⟩) (Kd.R_far (p:=⟨gb634,1,none⟩) (Kd.R_far (p:=⟨gb634,0,none⟩) (Kd.R_types HO628.out BK634.out (by decide)) (fun _ hk=>hk.2) (.slice Ao42 t626.length co42)) (fun _ hk=>hk.2) (.bool t629)) (fun _ hk=>hk.2) (.slice Ao45 t630.length co45)) (fun _ h_=>h_.1))):P:=h
theorem z30_43 {P:Prop} (h:P:=by(with_reducible repeat(first|apply Kd.R_alloc|apply Kd.R_drewN|apply Kd.R_drew));exact(Kd.R_mono (Kd.R_far (p:=⟨gb625,2,none⟩) (Kd.R_far (p:=⟨gb625,1,none⟩) (Kd.R_far (p:=⟨gb625,0,none⟩) (Kd.R_types HO616.out BK625.out (by decide)) (fun _ hk=>hk.2) (.slice Ao54 t617.length co54)) (fun _ hk=>hk.2) (.bool t620)) (fun _ hk=>hk.2) (.slice Ao56 t621.length co56)) (fun _ h_=>h_.1))):P:=h
theorem z30_44 {P:Prop} (h:P:=by(with_reducible repeat(first|apply Kd.R_alloc|apply Kd.R_drewN|apply Kd.R_drew));exact(Kd.R_mono (Kd.R_far (p:=⟨gb634,2,none⟩) (Kd.R_far (p:=⟨gb634,1,none⟩) (Kd.R_far (p:=⟨gb634,0,none⟩) (Kd.R_types HO619.out BK634.out (by decide)) (fun _ hk=>hk.2) (.slice Ao59 t626.length co59)) (fun _ hk=>hk.2) (.bool t629)) (fun _ hk=>hk.2) (.slice Ao62 t630.length co62)) (fun _ h_=>h_.1))):P:=h
theorem z30_45 {P:Prop} (h:P:=by(with_reducible repeat(first|apply Kd.R_alloc|apply Kd.R_drewN|apply Kd.R_drew));exact(Kd.R_mono (Kd.R_far (p:=⟨gb634,2,none⟩) (Kd.R_far (p:=⟨gb634,1,none⟩) (Kd.R_far (p:=⟨gb634,0,none⟩) (Kd.R_types HO628.out BK634.out (by decide)) (fun _ hk=>hk.2) (.slice Ao59 t626.length co59)) (fun _ hk=>hk.2) (.bool t629)) (fun _ hk=>hk.2) (.slice Ao62 t630.length co62)) (fun _ h_=>h_.1))):P:=h
theorem z30_46 {P:Prop} (h:P:=by(with_reducible repeat(first|apply Kd.R_alloc|apply Kd.R_drewN|apply Kd.R_drew));exact(Kd.R_mono (Kd.R_far (p:=⟨gb625,2,none⟩) (Kd.R_far (p:=⟨gb625,1,none⟩) (Kd.R_far (p:=⟨gb625,0,none⟩) (Kd.R_types HO616.out BK625.out (by decide)) (fun _ hk=>hk.2) (.slice Ao71 t617.length co71)) (fun _ hk=>hk.2) (.bool t620)) (fun _ hk=>hk.2) (.slice Ao73 t621.length co73)) (fun _ h_=>h_.1))):P:=h
theorem z30_47 {P:Prop} (h:P:=by(with_reducible repeat(first|apply Kd.R_alloc|apply Kd.R_drewN|apply Kd.R_drew));exact(Kd.R_mono (Kd.R_far (p:=⟨gb634,2,none⟩) (Kd.R_far (p:=⟨gb634,1,none⟩) (Kd.R_far (p:=⟨gb634,0,none⟩) (Kd.R_types HO619.out BK634.out (by decide)) (fun _ hk=>hk.2) (.slice Ao76 t626.length co76)) (fun _ hk=>hk.2) (.bool t629)) (fun _ hk=>hk.2) (.slice Ao79 t630.length co79)) (fun _ h_=>h_.1))):P:=h
theorem z30_48 {P:Prop} (h:P:=by(with_reducible repeat(first|apply Kd.R_alloc|apply Kd.R_drewN|apply Kd.R_drew));exact(Kd.R_mono (Kd.R_far (p:=⟨gb634,2,none⟩) (Kd.R_far (p:=⟨gb634,1,none⟩) (Kd.R_far (p:=⟨gb634,0,none⟩) (Kd.R_types HO628.out BK634.out (by decide)) (fun _ hk=>hk.2) (.slice Ao76 t626.length co76)) (fun _ hk=>hk.2) (.bool t629)) (fun _ hk=>hk.2) (.slice Ao79 t630.length co79)) (fun _ h_=>h_.1))):P:=h
theorem z30_49 {P:Prop} (h:P:=by(with_reducible repeat(first|apply Kd.R_alloc|apply Kd.R_drewN|apply Kd.R_drew));exact HO628.out):P:=h
theorem z30_50 {P:Prop} (h:P:=by(with_reducible repeat(first|apply Kd.N_alloc|apply Kd.N_drewN|apply Kd.N_drew));exact HO632.out):P:=h
theorem z30_51 {P:Prop} (h:P:=by exact(by(with_reducible repeat(first|apply Kd.R_alloc|apply Kd.R_drewN|apply Kd.R_drew));exact HO613.out)):P:=h
theorem z30_52 {P:Prop} (h:P:=by first|(with_reducible assumption)|assumption):P:=h
theorem z30_53 {P:Prop} (h:P:=by kernel_rfl):P:=h
theorem z30_54 {P:Prop} (h:P:=by repeat(first|exact(Kd.C_below HR603_2.out HB.out)|(with_reducible refine Kd.C_alloc ?_ _)|(with_reducible refine Kd.C_drewN ?_ _)|(with_reducible refine Kd.C_drew ?_))):P:=h
theorem z30_55 {P:Prop} (h:P:=by repeat(first|exact(Kd.C_below HR603_3.out HB.out)|(with_reducible refine Kd.C_alloc ?_ _)|(with_reducible refine Kd.C_drewN ?_ _)|(with_reducible refine Kd.C_drew ?_))):P:=h
theorem z30_56 {P:Prop} (h:P:=by repeat(first|exact(Kd.C_below HR604_2.out HB.out)|(with_reducible refine Kd.C_alloc ?_ _)|(with_reducible refine Kd.C_drewN ?_ _)|(with_reducible refine Kd.C_drew ?_))):P:=h
theorem z30_57 {P:Prop} (h:P:=by repeat(first|exact(Kd.C_below HR604_3.out HB.out)|(with_reducible refine Kd.C_alloc ?_ _)|(with_reducible refine Kd.C_drewN ?_ _)|(with_reducible refine Kd.C_drew ?_))):P:=h
theorem z30_58 {P:Prop} (h:P:=by repeat(first|exact(Kd.C_below HR0_0.out HB.out)|(with_reducible refine Kd.C_alloc ?_ _)|(with_reducible refine Kd.C_drewN ?_ _)|(with_reducible refine Kd.C_drew ?_))):P:=h
theorem z30_59 {P:Prop} (h:P:=by repeat(first|exact(Kd.C_below HR1_0.out HB.out)|(with_reducible refine Kd.C_alloc ?_ _)|(with_reducible refine Kd.C_drewN ?_ _)|(with_reducible refine Kd.C_drew ?_))):P:=h
theorem z30_60 {P:Prop} (h:P:=by show Act.put _ (some 25) _=_;simp only [Act.put,List.setIfInBounds_toArray,List.set_cons_zero,List.set_cons_succ,i64_w,i32_w];rfl):P:=h
def hucksterref05_All.l0:Nat→List (S30)→List (S30)→Int→Option (Bool)
 | 0,_,_,_=>none
 | k+1,x0,x1,x5=>if x5<(x0.length:Int) then(if 0≤x5 then(if x5<(x1.length:Int) then((hucksterref05_Same.f k ((rd_T30 x0 x5).f0.f0) ((rd_T30 x0 x5).f0.f1) ((rd_T30 x0 x5).f1) ((rd_T30 x0 x5).f2) ((rd_T30 x1 x5).f0.f0) ((rd_T30 x1 x5).f0.f1) ((rd_T30 x1 x5).f1) ((rd_T30 x1 x5).f2)).bind fun t605=>(if t605=true then(hucksterref05_All.l0 k x0 x1 (wrap64 (x5+1))) else(some false))) else(none)) else(none)) else(some true)
def hucksterref05_All.f (k:Nat) (l0:List (S30)) (l1:List (S30)):Option (Bool):=if (l0.length:Int)=(l1.length:Int) then(hucksterref05_All.l0 k l0 l1 0) else(some false)
def hucksterref05_All.T6:Bool×List (List Nat×List Nat):=(true,[([],[]),([],[]),([0,1],[0,1]),([2],[2]),([],[]),([],[]),([4,5],[4,5]),([6],[6]),([3,7],[3,7]),([8],[8])])
def hucksterref05_All.B6:List Nat:=[0,0,3,7,0,0,48,112,255,511]
theorem hucksterref05_All.tab6:rtab .any (opsOf Try.f42 6)=hucksterref05_All.T6:=by kernel_rfl
theorem hucksterref05_All.bits6:waitsOk hucksterref05_All.T6.2 hucksterref05_All.B6=true:=by kernel_rfl
set_option maxHeartbeats 8000000 in
set_option maxRecDepth 100000 in
theorem hucksterref05_All.calls (k:Nat) (A0:Option Addr) (c0:Nat) (l0:List (S30)) (A1:Option Addr) (c1:Nat) (l1:List (S30)) (r:Bool) (w:World) (hr0:Kd.C k30 w A0 l0.length l0) (hc0:l0.length≤c0) (hr1:Kd.C k30 w A1 l1.length l1) (hc1:l1.length≤c1) (h:hucksterref05_All.f k l0 l1=some r) :
  Calls Try.prog 42 #[.slice A0 l0.length c0,.slice A1 l1.length c1] w fun e w'=>e = .returned (.bool r)∧Below w.heap.size w w':=by
 have hu30:=Try.underlying30
 have HR0:=Aside0.mk hr0
 have HC0:=Aside0.mk hc0
 clear hr0 hc0
 have HR1:=Aside0.mk hr1
 have HC1:=Aside0.mk hc1
 clear hr1 hc1
 have HB:=U (Below.refl w.heap.size w)
 have H:(if (l0.length:Int)=(l1.length:Int) then(hucksterref05_All.l0 k l0 l1 0) else(some false))=some r:=h
 clear h
 by_cases c3:(l0.length:Int)=(l1.length:Int)
 ·rw [if_pos c3] at H
  have c3b0:((l0.length:Int) == (l1.length:Int))=true:=beq_iff_eq.mpr c3
  have c3b1:((l0.length:Int) != (l1.length:Int))=false:=bne_eq_false_iff_eq.mpr c3
  have c3b2:(l0.length == l1.length)=true:=by first|simpa using c3|(simp at c3 ⊢;omega)
  clear c3
  have H':=Aside0.mk H
  clear H
  go_enter Try.func42,Try.ntmps42
  go_wp2
  go_loopg [5] k (fun kq v5 w'=>∃ (x5_1:Int),v5 = .int .i64 x5_1∧Aside0 (hucksterref05_All.l0 kq l0 l1 x5_1=some r)∧Aside0 (kq≤k)∧Aside0 (Below w.heap.size w w'))
  case atStart=>exact ⟨(0),(by first|rfl|(simp;done)|(simp [*];done)),H',⟨Nat.le_refl _⟩,⟨z30_0⟩⟩
  case round =>
   clear H'
   try clear c1
   try clear p2
   try clear c3
   try clear c3b0
   try clear c3b1
   try clear c3b2
   obtain ⟨x5_1,rfl,HA,HK1,HB⟩:=hrel
   cases gk with
   | zero=>exact absurd HA.out (by simp [hucksterref05_All.l0])
   | succ k1 =>
    have H:=HA.out
    clear HA
    simp only [hucksterref05_All.l0] at H
    by_cases c4:x5_1<(l0.length:Int)
    ·rw [if_pos c4] at H
     have c4b0:decide (x5_1<(l0.length:Int))=true:=decide_eq_true c4
     clear c4
     by_cases c5:0≤x5_1
     ·rw [if_pos c5] at H
      have c5b0:decide (0≤x5_1)=true:=decide_eq_true c5
      clear c5
      by_cases c6:x5_1<(l1.length:Int)
      ·rw [if_pos c6] at H
       have c6b0:decide (x5_1<(l1.length:Int))=true:=decide_eq_true c6
       clear c6
       replace H:=Option.bind_eq_some_iff.mp H
       obtain ⟨t605,A70,H⟩:=H
       replace H:(if t605=true then(hucksterref05_All.l0 k1 l0 l1 (wrap64 (x5_1+1))) else(some false))=some r:=H
       have A7:=Aside0.mk A70
       clear A70
       by_cases c8:t605=true
       ·subst c8
        have H1:(hucksterref05_All.l0 k1 l0 l1 (wrap64 (x5_1+1)))=some r:=by rw [if_pos rfl] at H;exact H
        clear H
        have H:=H1
        clear H1
        have H':=Aside0.mk H
        clear H
        try go_wp2
        have n0_:=U (below_drew1 HB.out)
        clear HB
        have HB:=n0_
        clear n0_
        have p603:0≤(x5_1:Int):=of_decide_eq_true z30_52
        have q603:x5_1<(l0.length:Int):=of_decide_eq_true z30_52
        obtain ⟨ad603,A603_2,c603_2,A603_3,c603_3,e603,hx603_0,hx603_1,hx603_2,hx603_3,hl603_2,hi603_2,hl603_3,hi603_3⟩:=at_T30 HR0.out x5_1 p603 q603
        have hw603_3:=hx603_3
        have hw603_2:=hx603_2
        have hw603_1:=hx603_1
        have hw603_0:=hx603_0
        cases e603
        replace hx603_0:=(HB.out.cell (World.block_lt_of_cell? w _ hx603_0)).trans hx603_0
        replace hx603_1:=(HB.out.cell (World.block_lt_of_cell? w _ hx603_1)).trans hx603_1
        replace hx603_2:=(HB.out.cell (World.block_lt_of_cell? w _ hx603_2)).trans hx603_2
        replace hx603_3:=(HB.out.cell (World.block_lt_of_cell? w _ hx603_3)).trans hx603_3
        have HR603_2:=Aside0.mk hi603_2
        have HC603_2:=Aside0.mk hl603_2
        clear hi603_2 hl603_2
        have HR603_3:=Aside0.mk hi603_3
        have HC603_3:=Aside0.mk hl603_3
        clear hi603_3 hl603_3
        replace p603:=eq_true p603
        replace q603:=eq_true q603
        have p604:0≤(x5_1:Int):=of_decide_eq_true z30_52
        have q604:x5_1<(l1.length:Int):=of_decide_eq_true z30_52
        obtain ⟨ad604,A604_2,c604_2,A604_3,c604_3,e604,hx604_0,hx604_1,hx604_2,hx604_3,hl604_2,hi604_2,hl604_3,hi604_3⟩:=at_T30 HR1.out x5_1 p604 q604
        have hw604_3:=hx604_3
        have hw604_2:=hx604_2
        have hw604_1:=hx604_1
        have hw604_0:=hx604_0
        cases e604
        replace hx604_0:=(HB.out.cell (World.block_lt_of_cell? w _ hx604_0)).trans hx604_0
        replace hx604_1:=(HB.out.cell (World.block_lt_of_cell? w _ hx604_1)).trans hx604_1
        replace hx604_2:=(HB.out.cell (World.block_lt_of_cell? w _ hx604_2)).trans hx604_2
        replace hx604_3:=(HB.out.cell (World.block_lt_of_cell? w _ hx604_3)).trans hx604_3
        have HR604_2:=Aside0.mk hi604_2
        have HC604_2:=Aside0.mk hl604_2
        clear hi604_2 hl604_2
        have HR604_3:=Aside0.mk hi604_3
        have HC604_3:=Aside0.mk hl604_3
        clear hi604_3 hl604_3
        replace p604:=eq_true p604
        replace q604:=eq_true q604
        refine start_ (n:=10) (S:=fun w'=>w'.cell? (ad603.add ((x5_1).toNat*4))=some (.int .i64 ((rd_T30 l0 x5_1).f0.f0))∧w'.cell? ⟨(ad603.add ((x5_1).toNat*4)).block,(ad603.add ((x5_1).toNat*4)).off+1,none⟩=some (.int .i64 ((rd_T30 l0 x5_1).f0.f1))∧w'.cell? ⟨(ad603.add ((x5_1).toNat*4)).block,(ad603.add ((x5_1).toNat*4)).off+2,none⟩=some (.slice A603_2 ((rd_T30 l0 x5_1).f1).length c603_2)∧w'.cell? ⟨(ad603.add ((x5_1).toNat*4)).block,(ad603.add ((x5_1).toNat*4)).off+3,none⟩=some (.slice A603_3 ((rd_T30 l0 x5_1).f2).length c603_3)∧w'.cell? (ad604.add ((x5_1).toNat*4))=some (.int .i64 ((rd_T30 l1 x5_1).f0.f0))∧w'.cell? ⟨(ad604.add ((x5_1).toNat*4)).block,(ad604.add ((x5_1).toNat*4)).off+1,none⟩=some (.int .i64 ((rd_T30 l1 x5_1).f0.f1))∧w'.cell? ⟨(ad604.add ((x5_1).toNat*4)).block,(ad604.add ((x5_1).toNat*4)).off+2,none⟩=some (.slice A604_2 ((rd_T30 l1 x5_1).f1).length c604_2)∧w'.cell? ⟨(ad604.add ((x5_1).toNat*4)).block,(ad604.add ((x5_1).toNat*4)).off+3,none⟩=some (.slice A604_3 ((rd_T30 l1 x5_1).f2).length c604_3)) (ds:=[]) #[J,J,J,J,J,J,J,J,J,J] z30_53 rfl rfl ⟨((HB.out.cell (World.block_lt_of_cell? w _ hw603_0)).trans hw603_0),((HB.out.cell (World.block_lt_of_cell? w _ hw603_1)).trans hw603_1),((HB.out.cell (World.block_lt_of_cell? w _ hw603_2)).trans hw603_2),((HB.out.cell (World.block_lt_of_cell? w _ hw603_3)).trans hw603_3),((HB.out.cell (World.block_lt_of_cell? w _ hw604_0)).trans hw604_0),((HB.out.cell (World.block_lt_of_cell? w _ hw604_1)).trans hw604_1),((HB.out.cell (World.block_lt_of_cell? w _ hw604_2)).trans hw604_2),((HB.out.cell (World.block_lt_of_cell? w _ hw604_3)).trans hw604_3)⟩ (fun hHeld=>?_);refine with_tabW hucksterref05_All.tab6 hucksterref05_All.bits6 (fun HT_ HW_=>?_)
        generalize wr.drew=w9 at HB HR603_2 HR603_3 HR604_2 HR604_3 hx603_0 hx603_1 hx603_2 hx603_3 hx604_0 hx604_1 hx604_2 hx604_3 hHeld ⊢
        refine pure_ (i:=0) (N:=some 17) (v:=?_) (a':=?_) #[Y,J,J,J,J,J,J,J,J,J] rfl rfl (any_of HT_.out z30_53) (fun _ _ _ h=>h) (Or.inl ⟨(by rfl),?_⟩) ?_ ?_
        rotate_left
        ·intro w'
         go_simp
         with_reducible rfl
        rotate_left
        ·exact z30_3
        refine pure_ (i:=1) (N:=some 18) (v:=?_) (a':=?_) #[Y,Y,J,J,J,J,J,J,J,J] rfl rfl (any_of HT_.out z30_53) (fun _ _ _ h=>h) (Or.inl ⟨(by rfl),?_⟩) ?_ ?_
        rotate_left
        ·intro w'
         go_simp
         with_reducible rfl
        rotate_left
        ·exact z30_3
        refine pure_ (i:=2) (N:=some 19) (v:=?_) (a':=?_) #[Y,Y,Y,J,J,J,J,J,J,J] rfl rfl (any_of HT_.out z30_53) (fun _ _ _ h=>h) (Or.inl ⟨(by rfl),?_⟩) ?_ ?_
        rotate_left
        ·intro w'
         go_simp
         with_reducible rfl
        rotate_left
        ·exact z30_3
        refine pure_ (i:=4) (N:=some 21) (v:=?_) (a':=?_) #[Y,Y,Y,J,Y,J,J,J,J,J] rfl rfl (any_of HT_.out z30_53) (fun _ _ _ h=>h) (Or.inl ⟨(by rfl),?_⟩) ?_ ?_
        rotate_left
        ·intro w'
         go_simp
         with_reducible rfl
        rotate_left
        ·exact z30_3
        refine pure_ (i:=5) (N:=some 22) (v:=?_) (a':=?_) #[Y,Y,Y,J,Y,Y,J,J,J,J] rfl rfl (any_of HT_.out z30_53) (fun _ _ _ h=>h) (Or.inl ⟨(by rfl),?_⟩) ?_ ?_
        rotate_left
        ·intro w'
         go_simp
         with_reducible rfl
        rotate_left
        ·exact z30_3
        refine pure_ (i:=6) (N:=some 23) (v:=?_) (a':=?_) #[Y,Y,Y,J,Y,Y,Y,J,J,J] rfl rfl (any_of HT_.out z30_53) (fun _ _ _ h=>h) (Or.inl ⟨(by rfl),?_⟩) ?_ ?_
        rotate_left
        ·intro w'
         go_simp
         with_reducible rfl
        rotate_left
        ·exact z30_3
        refine take_ (i:=3) (N:=some 20) (v:=?_) (a':=?_) #[Y,Y,Y,Y,Y,Y,Y,J,J,J] rfl rfl (take_ofW HT_.out HW_.out z30_53) (fun _ _ _ h=>h) (Or.inl ⟨(by rfl),?_⟩) hHeld ?_ ?_
        rotate_left
        ·rintro w' ⟨s0,s1,s2,s3,s4,s5,s6,s7⟩
         go_simp
         with_reducible rfl
        rotate_left
        ·exact z30_3
        refine take_ (i:=7) (N:=some 24) (v:=?_) (a':=?_) #[Y,Y,Y,Y,Y,Y,Y,Y,J,J] rfl rfl (take_ofW HT_.out HW_.out z30_53) (fun _ _ _ h=>h) (Or.inl ⟨(by rfl),?_⟩) hHeld ?_ ?_
        rotate_left
        ·rintro w' ⟨s0,s1,s2,s3,s4,s5,s6,s7⟩
         go_simp
         with_reducible rfl
        rotate_left
        ·exact z30_3
        refine one_ (i:=8) (N:=some 25) #[Y,Y,Y,Y,Y,Y,Y,Y,Y,J] rfl rfl (one_of HT_.out z30_53) (by decide) (fun K hK=>?_)
        refine goes_ Try.func15 z30_53 rfl #[.agg #[.int .i64 ((rd_T30 l0 x5_1).f0.f0),.int .i64 ((rd_T30 l0 x5_1).f0.f1),.slice A603_2 ((rd_T30 l0 x5_1).f1).length c603_2,.slice A603_3 ((rd_T30 l0 x5_1).f2).length c603_3],.agg #[.int .i64 ((rd_T30 l1 x5_1).f0.f0),.int .i64 ((rd_T30 l1 x5_1).f0.f1),.slice A604_2 ((rd_T30 l1 x5_1).f1).length c604_2,.slice A604_3 ((rd_T30 l1 x5_1).f2).length c604_3]] (by rfl) rfl rfl z30_2 ?_
        with_reducible refine(hucksterref05_Same.calls k1 ((rd_T30 l0 x5_1).f0.f0) ((rd_T30 l0 x5_1).f0.f1) _ _ ((rd_T30 l0 x5_1).f1) _ _ ((rd_T30 l0 x5_1).f2) ((rd_T30 l1 x5_1).f0.f0) ((rd_T30 l1 x5_1).f0.f1) _ _ ((rd_T30 l1 x5_1).f1) _ _ ((rd_T30 l1 x5_1).f2) true _ ?side1 ?side2 ?side3 ?side4 ?side5 ?side6 ?side7 ?side8 A7.out).mono ?_
        (case side1=>exact z30_54)
        (case side2=>exact HC603_2.out)
        (case side3=>exact z30_55)
        (case side4=>exact HC603_3.out)
        (case side5=>exact z30_56)
        (case side6=>exact HC604_2.out)
        (case side7=>exact z30_57)
        (case side8=>exact HC604_3.out)
        rintro e w10 ⟨rfl,hb⟩
        refine ⟨_,rfl,?_⟩
        have n0_:=U (below_step z30_0 hb)
        clear HB
        have HB:=n0_
        clear n0_
        (try clear hb)
        (try clear hb2)
        (try clear hk)
        (try clear hi)
        refine hK.out _ _ ⟨((HB.out.cell (World.block_lt_of_cell? w _ hw603_0)).trans hw603_0),((HB.out.cell (World.block_lt_of_cell? w _ hw603_1)).trans hw603_1),((HB.out.cell (World.block_lt_of_cell? w _ hw603_2)).trans hw603_2),((HB.out.cell (World.block_lt_of_cell? w _ hw603_3)).trans hw603_3),((HB.out.cell (World.block_lt_of_cell? w _ hw604_0)).trans hw604_0),((HB.out.cell (World.block_lt_of_cell? w _ hw604_1)).trans hw604_1),((HB.out.cell (World.block_lt_of_cell? w _ hw604_2)).trans hw604_2),((HB.out.cell (World.block_lt_of_cell? w _ hw604_3)).trans hw604_3)⟩ (fun hHeld=>?_)
        clear hK K
        refine norm_ (a':=?_) ?_ ?_
        rotate_left
        ·exact z30_60
        refine pure_ (i:=9) (N:=some 26) (v:=?_) (a':=?_) #[Y,Y,Y,Y,Y,Y,Y,Y,Y,Y] rfl rfl (any_of HT_.out z30_53) (fun _ _ _ h=>h) (Or.inl ⟨(by rfl),?_⟩) ?_ ?_
        rotate_left
        ·intro w'
         go_simp
         with_reducible rfl
        rotate_left
        ·exact z30_3
        refine done_ (done_of HT_.out z30_53) ?_
        try go_wp2
        go_roundg k1
        case measure=>have:=HK1.out;omega
        case rel=>exact ⟨(wrap64 (x5_1+1)),(by first|rfl|(simp;done)|(simp [*];done)),H',⟨(by have:=HK1.out;omega)⟩,⟨z30_0⟩⟩
       ·replace c8:=Bool.eq_false_iff.mpr c8
        subst c8
        have H1:(some false)=some r:=by rw [if_neg (show ¬ (false=true) by decide)] at H;exact H
        clear H
        have H:=H1
        clear H1
        obtain rfl:=Option.some.inj H
        try go_wp2
        have n0_:=U (below_drew1 HB.out)
        clear HB
        have HB:=n0_
        clear n0_
        have p603:0≤(x5_1:Int):=of_decide_eq_true z30_52
        have q603:x5_1<(l0.length:Int):=of_decide_eq_true z30_52
        obtain ⟨ad603,A603_2,c603_2,A603_3,c603_3,e603,hx603_0,hx603_1,hx603_2,hx603_3,hl603_2,hi603_2,hl603_3,hi603_3⟩:=at_T30 HR0.out x5_1 p603 q603
        have hw603_3:=hx603_3
        have hw603_2:=hx603_2
        have hw603_1:=hx603_1
        have hw603_0:=hx603_0
        cases e603
        replace hx603_0:=(HB.out.cell (World.block_lt_of_cell? w _ hx603_0)).trans hx603_0
        replace hx603_1:=(HB.out.cell (World.block_lt_of_cell? w _ hx603_1)).trans hx603_1
        replace hx603_2:=(HB.out.cell (World.block_lt_of_cell? w _ hx603_2)).trans hx603_2
        replace hx603_3:=(HB.out.cell (World.block_lt_of_cell? w _ hx603_3)).trans hx603_3
        have HR603_2:=Aside0.mk hi603_2
        have HC603_2:=Aside0.mk hl603_2
        clear hi603_2 hl603_2
        have HR603_3:=Aside0.mk hi603_3
        have HC603_3:=Aside0.mk hl603_3
        clear hi603_3 hl603_3
        replace p603:=eq_true p603
        replace q603:=eq_true q603
        have p604:0≤(x5_1:Int):=of_decide_eq_true z30_52
        have q604:x5_1<(l1.length:Int):=of_decide_eq_true z30_52
        obtain ⟨ad604,A604_2,c604_2,A604_3,c604_3,e604,hx604_0,hx604_1,hx604_2,hx604_3,hl604_2,hi604_2,hl604_3,hi604_3⟩:=at_T30 HR1.out x5_1 p604 q604
        have hw604_3:=hx604_3
        have hw604_2:=hx604_2
        have hw604_1:=hx604_1
        have hw604_0:=hx604_0
        cases e604
        replace hx604_0:=(HB.out.cell (World.block_lt_of_cell? w _ hx604_0)).trans hx604_0
        replace hx604_1:=(HB.out.cell (World.block_lt_of_cell? w _ hx604_1)).trans hx604_1
        replace hx604_2:=(HB.out.cell (World.block_lt_of_cell? w _ hx604_2)).trans hx604_2
        replace hx604_3:=(HB.out.cell (World.block_lt_of_cell? w _ hx604_3)).trans hx604_3
        have HR604_2:=Aside0.mk hi604_2
        have HC604_2:=Aside0.mk hl604_2
        clear hi604_2 hl604_2
        have HR604_3:=Aside0.mk hi604_3
        have HC604_3:=Aside0.mk hl604_3
        clear hi604_3 hl604_3
        replace p604:=eq_true p604
        replace q604:=eq_true q604
        refine start_ (n:=10) (S:=fun w'=>w'.cell? (ad603.add ((x5_1).toNat*4))=some (.int .i64 ((rd_T30 l0 x5_1).f0.f0))∧w'.cell? ⟨(ad603.add ((x5_1).toNat*4)).block,(ad603.add ((x5_1).toNat*4)).off+1,none⟩=some (.int .i64 ((rd_T30 l0 x5_1).f0.f1))∧w'.cell? ⟨(ad603.add ((x5_1).toNat*4)).block,(ad603.add ((x5_1).toNat*4)).off+2,none⟩=some (.slice A603_2 ((rd_T30 l0 x5_1).f1).length c603_2)∧w'.cell? ⟨(ad603.add ((x5_1).toNat*4)).block,(ad603.add ((x5_1).toNat*4)).off+3,none⟩=some (.slice A603_3 ((rd_T30 l0 x5_1).f2).length c603_3)∧w'.cell? (ad604.add ((x5_1).toNat*4))=some (.int .i64 ((rd_T30 l1 x5_1).f0.f0))∧w'.cell? ⟨(ad604.add ((x5_1).toNat*4)).block,(ad604.add ((x5_1).toNat*4)).off+1,none⟩=some (.int .i64 ((rd_T30 l1 x5_1).f0.f1))∧w'.cell? ⟨(ad604.add ((x5_1).toNat*4)).block,(ad604.add ((x5_1).toNat*4)).off+2,none⟩=some (.slice A604_2 ((rd_T30 l1 x5_1).f1).length c604_2)∧w'.cell? ⟨(ad604.add ((x5_1).toNat*4)).block,(ad604.add ((x5_1).toNat*4)).off+3,none⟩=some (.slice A604_3 ((rd_T30 l1 x5_1).f2).length c604_3)) (ds:=[]) #[J,J,J,J,J,J,J,J,J,J] z30_53 rfl rfl ⟨((HB.out.cell (World.block_lt_of_cell? w _ hw603_0)).trans hw603_0),((HB.out.cell (World.block_lt_of_cell? w _ hw603_1)).trans hw603_1),((HB.out.cell (World.block_lt_of_cell? w _ hw603_2)).trans hw603_2),((HB.out.cell (World.block_lt_of_cell? w _ hw603_3)).trans hw603_3),((HB.out.cell (World.block_lt_of_cell? w _ hw604_0)).trans hw604_0),((HB.out.cell (World.block_lt_of_cell? w _ hw604_1)).trans hw604_1),((HB.out.cell (World.block_lt_of_cell? w _ hw604_2)).trans hw604_2),((HB.out.cell (World.block_lt_of_cell? w _ hw604_3)).trans hw604_3)⟩ (fun hHeld=>?_);refine with_tabW hucksterref05_All.tab6 hucksterref05_All.bits6 (fun HT_ HW_=>?_)
        generalize wr.drew=w11 at HB HR603_2 HR603_3 HR604_2 HR604_3 hx603_0 hx603_1 hx603_2 hx603_3 hx604_0 hx604_1 hx604_2 hx604_3 hHeld ⊢
        refine pure_ (i:=0) (N:=some 17) (v:=?_) (a':=?_) #[Y,J,J,J,J,J,J,J,J,J] rfl rfl (any_of HT_.out z30_53) (fun _ _ _ h=>h) (Or.inl ⟨(by rfl),?_⟩) ?_ ?_
        rotate_left
        ·intro w'
         go_simp
         with_reducible rfl
        rotate_left
        ·exact z30_3
        refine pure_ (i:=1) (N:=some 18) (v:=?_) (a':=?_) #[Y,Y,J,J,J,J,J,J,J,J] rfl rfl (any_of HT_.out z30_53) (fun _ _ _ h=>h) (Or.inl ⟨(by rfl),?_⟩) ?_ ?_
        rotate_left
        ·intro w'
         go_simp
         with_reducible rfl
        rotate_left
        ·exact z30_3
        refine pure_ (i:=2) (N:=some 19) (v:=?_) (a':=?_) #[Y,Y,Y,J,J,J,J,J,J,J] rfl rfl (any_of HT_.out z30_53) (fun _ _ _ h=>h) (Or.inl ⟨(by rfl),?_⟩) ?_ ?_
        rotate_left
        ·intro w'
         go_simp
         with_reducible rfl
        rotate_left
        ·exact z30_3
        refine pure_ (i:=4) (N:=some 21) (v:=?_) (a':=?_) #[Y,Y,Y,J,Y,J,J,J,J,J] rfl rfl (any_of HT_.out z30_53) (fun _ _ _ h=>h) (Or.inl ⟨(by rfl),?_⟩) ?_ ?_
        rotate_left
        ·intro w'
         go_simp
         with_reducible rfl
        rotate_left
        ·exact z30_3
        refine pure_ (i:=5) (N:=some 22) (v:=?_) (a':=?_) #[Y,Y,Y,J,Y,Y,J,J,J,J] rfl rfl (any_of HT_.out z30_53) (fun _ _ _ h=>h) (Or.inl ⟨(by rfl),?_⟩) ?_ ?_
        rotate_left
        ·intro w'
         go_simp
         with_reducible rfl
        rotate_left
        ·exact z30_3
        refine pure_ (i:=6) (N:=some 23) (v:=?_) (a':=?_) #[Y,Y,Y,J,Y,Y,Y,J,J,J] rfl rfl (any_of HT_.out z30_53) (fun _ _ _ h=>h) (Or.inl ⟨(by rfl),?_⟩) ?_ ?_
        rotate_left
        ·intro w'
         go_simp
         with_reducible rfl
        rotate_left
        ·exact z30_3
        refine take_ (i:=3) (N:=some 20) (v:=?_) (a':=?_) #[Y,Y,Y,Y,Y,Y,Y,J,J,J] rfl rfl (take_ofW HT_.out HW_.out z30_53) (fun _ _ _ h=>h) (Or.inl ⟨(by rfl),?_⟩) hHeld ?_ ?_
        rotate_left
        ·rintro w' ⟨s0,s1,s2,s3,s4,s5,s6,s7⟩
         go_simp
         with_reducible rfl
        rotate_left
        ·exact z30_3
        refine take_ (i:=7) (N:=some 24) (v:=?_) (a':=?_) #[Y,Y,Y,Y,Y,Y,Y,Y,J,J] rfl rfl (take_ofW HT_.out HW_.out z30_53) (fun _ _ _ h=>h) (Or.inl ⟨(by rfl),?_⟩) hHeld ?_ ?_
        rotate_left
        ·rintro w' ⟨s0,s1,s2,s3,s4,s5,s6,s7⟩
         go_simp
         with_reducible rfl
        rotate_left
        ·exact z30_3
        refine one_ (i:=8) (N:=some 25) #[Y,Y,Y,Y,Y,Y,Y,Y,Y,J] rfl rfl (one_of HT_.out z30_53) (by decide) (fun K hK=>?_)
        refine goes_ Try.func15 z30_53 rfl #[.agg #[.int .i64 ((rd_T30 l0 x5_1).f0.f0),.int .i64 ((rd_T30 l0 x5_1).f0.f1),.slice A603_2 ((rd_T30 l0 x5_1).f1).length c603_2,.slice A603_3 ((rd_T30 l0 x5_1).f2).length c603_3],.agg #[.int .i64 ((rd_T30 l1 x5_1).f0.f0),.int .i64 ((rd_T30 l1 x5_1).f0.f1),.slice A604_2 ((rd_T30 l1 x5_1).f1).length c604_2,.slice A604_3 ((rd_T30 l1 x5_1).f2).length c604_3]] (by rfl) rfl rfl z30_2 ?_
        with_reducible refine(hucksterref05_Same.calls k1 ((rd_T30 l0 x5_1).f0.f0) ((rd_T30 l0 x5_1).f0.f1) _ _ ((rd_T30 l0 x5_1).f1) _ _ ((rd_T30 l0 x5_1).f2) ((rd_T30 l1 x5_1).f0.f0) ((rd_T30 l1 x5_1).f0.f1) _ _ ((rd_T30 l1 x5_1).f1) _ _ ((rd_T30 l1 x5_1).f2) false _ ?side1 ?side2 ?side3 ?side4 ?side5 ?side6 ?side7 ?side8 A7.out).mono ?_
        (case side1=>exact z30_54)
        (case side2=>exact HC603_2.out)
        (case side3=>exact z30_55)
        (case side4=>exact HC603_3.out)
        (case side5=>exact z30_56)
        (case side6=>exact HC604_2.out)
        (case side7=>exact z30_57)
        (case side8=>exact HC604_3.out)
        rintro e w12 ⟨rfl,hb⟩
        refine ⟨_,rfl,?_⟩
        have n0_:=U (below_step z30_0 hb)
        clear HB
        have HB:=n0_
        clear n0_
        (try clear hb)
        (try clear hb2)
        (try clear hk)
        (try clear hi)
        refine hK.out _ _ ⟨((HB.out.cell (World.block_lt_of_cell? w _ hw603_0)).trans hw603_0),((HB.out.cell (World.block_lt_of_cell? w _ hw603_1)).trans hw603_1),((HB.out.cell (World.block_lt_of_cell? w _ hw603_2)).trans hw603_2),((HB.out.cell (World.block_lt_of_cell? w _ hw603_3)).trans hw603_3),((HB.out.cell (World.block_lt_of_cell? w _ hw604_0)).trans hw604_0),((HB.out.cell (World.block_lt_of_cell? w _ hw604_1)).trans hw604_1),((HB.out.cell (World.block_lt_of_cell? w _ hw604_2)).trans hw604_2),((HB.out.cell (World.block_lt_of_cell? w _ hw604_3)).trans hw604_3)⟩ (fun hHeld=>?_)
        clear hK K
        refine norm_ (a':=?_) ?_ ?_
        rotate_left
        ·exact z30_60
        refine pure_ (i:=9) (N:=some 26) (v:=?_) (a':=?_) #[Y,Y,Y,Y,Y,Y,Y,Y,Y,Y] rfl rfl (any_of HT_.out z30_53) (fun _ _ _ h=>h) (Or.inl ⟨(by rfl),?_⟩) ?_ ?_
        rotate_left
        ·intro w'
         go_simp
         with_reducible rfl
        rotate_left
        ·exact z30_3
        refine done_ (done_of HT_.out z30_53) ?_
        try go_wp2
        go_ret
        exact ⟨z30_11,z30_0⟩
      ·rw [if_neg c6] at H
       exact absurd H (by simp)
     ·rw [if_neg c5] at H
      exact absurd H (by simp)
    ·rw [if_neg c4] at H
     have c4b0:decide (x5_1<(l0.length:Int))=false:=decide_eq_false c4
     clear c4
     obtain rfl:=Option.some.inj H
     go_wp2
     go_ret
     exact ⟨z30_11,z30_0⟩
 ·rw [if_neg c3] at H
  have c3b0:((l0.length:Int) == (l1.length:Int))=false:=beq_eq_false_iff_ne.mpr c3
  have c3b1:((l0.length:Int) != (l1.length:Int))=true:=bne_iff_ne.mpr c3
  have c3b2:(l0.length == l1.length)=false:=by first|simpa using c3|(simp at c3 ⊢;omega)
  obtain rfl:=Option.some.inj H
  go_enter Try.func42,Try.ntmps42
  go_wp2
  go_ret
  exact ⟨z30_11,z30_0⟩
def hucksterref28_Same.f (k:Nat) (l0_0:List Int) (a0_1:Bool) (l0_2:List (S30)) (l1_0:List Int) (a1_1:Bool) (l1_2:List (S30)):Option (Bool):=if (a0_1 == a1_1)=true then((hucksterref03_Same.f k l0_0 l1_0).bind fun t608=>(if t608=true then((hucksterref05_All.f k l0_2 l1_2).bind fun t609=>(some t609)) else(some false))) else(some false)
set_option maxHeartbeats 8000000 in
set_option maxRecDepth 100000 in
theorem hucksterref28_Same.calls (k:Nat) (A0_0:Option Addr) (c0_0:Nat) (l0_0:List Int) (a0_1:Bool) (A0_2:Option Addr) (c0_2:Nat) (l0_2:List (S30)) (A1_0:Option Addr) (c1_0:Nat) (l1_0:List Int) (a1_1:Bool) (A1_2:Option Addr) (c1_2:Nat) (l1_2:List (S30)) (r:Bool) (w:World) (hr0_0:Kd.C (Kd.int .i64) w A0_0 l0_0.length l0_0) (hc0_0:l0_0.length≤c0_0) (hr0_2:Kd.C k30 w A0_2 l0_2.length l0_2) (hc0_2:l0_2.length≤c0_2) (hr1_0:Kd.C (Kd.int .i64) w A1_0 l1_0.length l1_0) (hc1_0:l1_0.length≤c1_0) (hr1_2:Kd.C k30 w A1_2 l1_2.length l1_2) (hc1_2:l1_2.length≤c1_2) (h:hucksterref28_Same.f k l0_0 a0_1 l0_2 l1_0 a1_1 l1_2=some r) :
  Calls Try.prog 32 #[.agg #[.slice A0_0 l0_0.length c0_0,.bool a0_1,.slice A0_2 l0_2.length c0_2],.agg #[.slice A1_0 l1_0.length c1_0,.bool a1_1,.slice A1_2 l1_2.length c1_2]] w fun e w'=>e = .returned (.bool r)∧Below w.heap.size w w':=by
 have hu53:=Try.underlying53
 have HR0_0:=Aside0.mk hr0_0
 have HC0_0:=Aside0.mk hc0_0
 clear hr0_0 hc0_0
 have HR0_2:=Aside0.mk hr0_2
 have HC0_2:=Aside0.mk hc0_2
 clear hr0_2 hc0_2
 have HR1_0:=Aside0.mk hr1_0
 have HC1_0:=Aside0.mk hc1_0
 clear hr1_0 hc1_0
 have HR1_2:=Aside0.mk hr1_2
 have HC1_2:=Aside0.mk hc1_2
 clear hr1_2 hc1_2
 have HB:=U (Below.refl w.heap.size w)
 have H:(if (a0_1 == a1_1)=true then((hucksterref03_Same.f k l0_0 l1_0).bind fun t608=>(if t608=true then((hucksterref05_All.f k l0_2 l1_2).bind fun t609=>(some t609)) else(some false))) else(some false))=some r:=h
 clear h
 by_cases c3:(a0_1 == a1_1)=true
 ·rw [if_pos c3] at H
  have c3b0:(a0_1 == a1_1)=true:=c3
  (try(have c3b1:decide (a0_1=a1_1)=true:=by simpa using c3))
  (try(have c3b2:(a0_1 == a1_1)=true:=by simpa using c3))
  clear c3
  replace H:=Option.bind_eq_some_iff.mp H
  obtain ⟨t608,A40,H⟩:=H
  replace H:(if t608=true then((hucksterref05_All.f k l0_2 l1_2).bind fun t609=>(some t609)) else(some false))=some r:=H
  have A4:=Aside0.mk A40
  clear A40
  by_cases c5:t608=true
  ·subst c5
   have H1:((hucksterref05_All.f k l0_2 l1_2).bind fun t609=>(some t609))=some r:=by rw [if_pos rfl] at H;exact H
   clear H
   have H:=H1
   clear H1
   replace H:=Option.bind_eq_some_iff.mp H
   obtain ⟨t609,A60,H⟩:=H
   replace H:(some t609)=some r:=H
   have A6:=Aside0.mk A60
   clear A60
   obtain rfl:=Option.some.inj H
   go_enter Try.func32,Try.ntmps32
   go_wp2_with (first|((with_reducible refine gate_dst (N:=2) rfl ?_);refine box_event ?hg (N:=2) ?hd (cs:=#[.slice A0_0 l0_0.length c0_0,.bool a0_1,.slice A0_2 l0_2.length c0_2]) (t:=53) ?hr ?_;(case hd=>rfl);(case hg=>rfl);(case hr=>exact z30_22);intro gb606 hg w7 hbox hb;have n0_:=U (below_step z30_0 hb);have n1_:=U (hbox);have n2_:=U ((by rw [hg];exact(below_size z30_0):w.heap.size≤gb606));have n3_:=U ((by rw [hg];exact(below_size z30_0):w.heap.size≤gb606));clear HB;have HB:=n0_;have BK606:=n1_;have GW606:=n2_;have GE606:=n3_;clear n0_ n1_ n2_ n3_;clear hb hbox hg)|((with_reducible refine gate_dst (N:=3) rfl ?_);refine box_event ?hg (N:=3) ?hd (cs:=#[.slice A1_0 l1_0.length c1_0,.bool a1_1,.slice A1_2 l1_2.length c1_2]) (t:=53) ?hr ?_;(case hd=>rfl);(case hg=>rfl);(case hr=>exact z30_22);intro gb607 hg w8 hbox hb;have n0_:=U (blk_below (g:=gb606) (o:=.cells #[.slice A0_0 l0_0.length c0_0,.bool a0_1,.slice A0_2 l0_2.length c0_2] 53 (0,0)) z30_9 hb);have n1_:=U (below_step z30_8 hb);have n2_:=U (hbox);have n3_:=U ((by rw [hg];exact(below_size z30_8):w.heap.size≤gb607));have n4_:=U ((by rw [hg];exact(below_size z30_8):w.heap.size≤gb607));have n5_:=U ((by rw [hg];exact Nat.ne_of_lt (blk_lt (g:=gb606) (o:=.cells #[.slice A0_0 l0_0.length c0_0,.bool a0_1,.slice A0_2 l0_2.length c0_2] 53 (0,0)) z30_9):gb606≠gb607));have n6_:=U ((by rw [hg];exact Nat.ne_of_gt (blk_lt (g:=gb606) (o:=.cells #[.slice A0_0 l0_0.length c0_0,.bool a0_1,.slice A0_2 l0_2.length c0_2] 53 (0,0)) z30_9):gb607≠gb606));clear BK606;clear HB;have BK606:=n0_;have HB:=n1_;have BK607:=n2_;have GW607:=n3_;have GE607:=n4_;have NB606_607:=n5_;have NB607_606:=n6_;clear n0_ n1_ n2_ n3_ n4_ n5_ n6_;clear hb hbox hg;have hnb9:=NB606_607.out;have hnc9:=NB607_606.out;obtain ⟨hcz10_0,hcz10_1,hcz10_2,hfz10_0,hfz10_1,hfz10_2⟩:=cz3_ BK606.out;obtain ⟨hcz11_0,hcz11_1,hcz11_2,hfz11_0,hfz11_1,hfz11_2⟩:=cz3_ BK607.out)|(go_at_call 56;(with_reducible refine(hucksterref03_Same.calls k _ _ l0_0 _ _ l1_0 true _ ?side1 ?side2 ?side3 ?side4 A4.out).mono ?_);(case side1=>exact z30_58);(case side2=>exact HC0_0.out);(case side3=>exact z30_59);(case side4=>exact HC1_0.out);rintro e w' ⟨rfl,⟨nd,rfl⟩⟩)|(go_at_call 42;(with_reducible refine(hucksterref05_All.calls k _ _ l0_2 _ _ l1_2 t609 _ ?side1 ?side2 ?side3 ?side4 A6.out).mono ?_);(case side1=>repeat(first|exact(Kd.C_below HR0_2.out z30_10)|(with_reducible refine Kd.C_alloc ?_ _)|(with_reducible refine Kd.C_drewN ?_ _)|(with_reducible refine Kd.C_drew ?_)));(case side2=>exact HC0_2.out);(case side3=>repeat(first|exact(Kd.C_below HR1_2.out z30_10)|(with_reducible refine Kd.C_alloc ?_ _)|(with_reducible refine Kd.C_drewN ?_ _)|(with_reducible refine Kd.C_drew ?_)));(case side4=>exact HC1_2.out);rintro e w12 ⟨rfl,hb⟩;have n0_:=U (blk_below (g:=gb606) (o:=.cells #[.slice A0_0 l0_0.length c0_0,.bool a0_1,.slice A0_2 l0_2.length c0_2] 53 (0,0)) z30_9 hb);have n1_:=U (blk_below (g:=gb607) (o:=.cells #[.slice A1_0 l1_0.length c1_0,.bool a1_1,.slice A1_2 l1_2.length c1_2] 53 (0,0)) (by(with_reducible repeat(first|refine blk_drewN ?_ _|refine blk_drew ?_|refine blk_alloc ?_ _));exact BK607.out) hb);have n2_:=U (below_step z30_10 hb);clear BK606;clear BK607;clear HB;have BK606:=n0_;have BK607:=n1_;have HB:=n2_;clear n0_ n1_ n2_;(try clear hb);(try clear hb2);(try clear hk);(try clear hi)))
   go_ret
   exact ⟨z30_11,z30_10⟩
  ·replace c5:=Bool.eq_false_iff.mpr c5
   subst c5
   have H1:(some false)=some r:=by rw [if_neg (show ¬ (false=true) by decide)] at H;exact H
   clear H
   have H:=H1
   clear H1
   obtain rfl:=Option.some.inj H
   go_enter Try.func32,Try.ntmps32
   go_wp2_with (first|((with_reducible refine gate_dst (N:=2) rfl ?_);refine box_event ?hg (N:=2) ?hd (cs:=#[.slice A0_0 l0_0.length c0_0,.bool a0_1,.slice A0_2 l0_2.length c0_2]) (t:=53) ?hr ?_;(case hd=>rfl);(case hg=>rfl);(case hr=>exact z30_22);intro gb606 hg w13 hbox hb;have n0_:=U (below_step z30_0 hb);have n1_:=U (hbox);have n2_:=U ((by rw [hg];exact(below_size z30_0):w.heap.size≤gb606));have n3_:=U ((by rw [hg];exact(below_size z30_0):w.heap.size≤gb606));clear HB;have HB:=n0_;have BK606:=n1_;have GW606:=n2_;have GE606:=n3_;clear n0_ n1_ n2_ n3_;clear hb hbox hg)|((with_reducible refine gate_dst (N:=3) rfl ?_);refine box_event ?hg (N:=3) ?hd (cs:=#[.slice A1_0 l1_0.length c1_0,.bool a1_1,.slice A1_2 l1_2.length c1_2]) (t:=53) ?hr ?_;(case hd=>rfl);(case hg=>rfl);(case hr=>exact z30_22);intro gb607 hg w14 hbox hb;have n0_:=U (blk_below (g:=gb606) (o:=.cells #[.slice A0_0 l0_0.length c0_0,.bool a0_1,.slice A0_2 l0_2.length c0_2] 53 (0,0)) z30_9 hb);have n1_:=U (below_step z30_8 hb);have n2_:=U (hbox);have n3_:=U ((by rw [hg];exact(below_size z30_8):w.heap.size≤gb607));have n4_:=U ((by rw [hg];exact(below_size z30_8):w.heap.size≤gb607));have n5_:=U ((by rw [hg];exact Nat.ne_of_lt (blk_lt (g:=gb606) (o:=.cells #[.slice A0_0 l0_0.length c0_0,.bool a0_1,.slice A0_2 l0_2.length c0_2] 53 (0,0)) z30_9):gb606≠gb607));have n6_:=U ((by rw [hg];exact Nat.ne_of_gt (blk_lt (g:=gb606) (o:=.cells #[.slice A0_0 l0_0.length c0_0,.bool a0_1,.slice A0_2 l0_2.length c0_2] 53 (0,0)) z30_9):gb607≠gb606));clear BK606;clear HB;have BK606:=n0_;have HB:=n1_;have BK607:=n2_;have GW607:=n3_;have GE607:=n4_;have NB606_607:=n5_;have NB607_606:=n6_;clear n0_ n1_ n2_ n3_ n4_ n5_ n6_;clear hb hbox hg;have hnb15:=NB606_607.out;have hnc15:=NB607_606.out;obtain ⟨hcz16_0,hcz16_1,hcz16_2,hfz16_0,hfz16_1,hfz16_2⟩:=cz3_ BK606.out;obtain ⟨hcz17_0,hcz17_1,hcz17_2,hfz17_0,hfz17_1,hfz17_2⟩:=cz3_ BK607.out)|(go_at_call 56;(with_reducible refine(hucksterref03_Same.calls k _ _ l0_0 _ _ l1_0 false _ ?side1 ?side2 ?side3 ?side4 A4.out).mono ?_);(case side1=>exact z30_58);(case side2=>exact HC0_0.out);(case side3=>exact z30_59);(case side4=>exact HC1_0.out);rintro e w' ⟨rfl,⟨nd,rfl⟩⟩))
   go_ret
   exact ⟨z30_11,z30_10⟩
 ·rw [if_neg c3] at H
  have c3b0:(a0_1 == a1_1)=false:=by simpa using c3
  (try(have c3b1:decide (a0_1=a1_1)=false:=by simpa using c3))
  (try(have c3b2:(a0_1 == a1_1)=false:=by simpa using c3))
  (try(have c3b3:¬ (a0_1=a1_1):=by simpa using c3))
  clear c3
  obtain rfl:=Option.some.inj H
  go_enter Try.func32,Try.ntmps32
  go_wp2_with (first|((with_reducible refine gate_dst (N:=2) rfl ?_);refine box_event ?hg (N:=2) ?hd (cs:=#[.slice A0_0 l0_0.length c0_0,.bool a0_1,.slice A0_2 l0_2.length c0_2]) (t:=53) ?hr ?_;(case hd=>rfl);(case hg=>rfl);(case hr=>exact z30_22);intro gb606 hg w18 hbox hb;have n0_:=U (below_step z30_0 hb);have n1_:=U (hbox);have n2_:=U ((by rw [hg];exact(below_size z30_0):w.heap.size≤gb606));have n3_:=U ((by rw [hg];exact(below_size z30_0):w.heap.size≤gb606));clear HB;have HB:=n0_;have BK606:=n1_;have GW606:=n2_;have GE606:=n3_;clear n0_ n1_ n2_ n3_;clear hb hbox hg)|((with_reducible refine gate_dst (N:=3) rfl ?_);refine box_event ?hg (N:=3) ?hd (cs:=#[.slice A1_0 l1_0.length c1_0,.bool a1_1,.slice A1_2 l1_2.length c1_2]) (t:=53) ?hr ?_;(case hd=>rfl);(case hg=>rfl);(case hr=>exact z30_22);intro gb607 hg w19 hbox hb;have n0_:=U (blk_below (g:=gb606) (o:=.cells #[.slice A0_0 l0_0.length c0_0,.bool a0_1,.slice A0_2 l0_2.length c0_2] 53 (0,0)) z30_9 hb);have n1_:=U (below_step z30_8 hb);have n2_:=U (hbox);have n3_:=U ((by rw [hg];exact(below_size z30_8):w.heap.size≤gb607));have n4_:=U ((by rw [hg];exact(below_size z30_8):w.heap.size≤gb607));have n5_:=U ((by rw [hg];exact Nat.ne_of_lt (blk_lt (g:=gb606) (o:=.cells #[.slice A0_0 l0_0.length c0_0,.bool a0_1,.slice A0_2 l0_2.length c0_2] 53 (0,0)) z30_9):gb606≠gb607));have n6_:=U ((by rw [hg];exact Nat.ne_of_gt (blk_lt (g:=gb606) (o:=.cells #[.slice A0_0 l0_0.length c0_0,.bool a0_1,.slice A0_2 l0_2.length c0_2] 53 (0,0)) z30_9):gb607≠gb606));clear BK606;clear HB;have BK606:=n0_;have HB:=n1_;have BK607:=n2_;have GW607:=n3_;have GE607:=n4_;have NB606_607:=n5_;have NB607_606:=n6_;clear n0_ n1_ n2_ n3_ n4_ n5_ n6_;clear hb hbox hg;have hnb20:=NB606_607.out;have hnc20:=NB607_606.out;obtain ⟨hcz21_0,hcz21_1,hcz21_2,hfz21_0,hfz21_1,hfz21_2⟩:=cz3_ BK606.out;obtain ⟨hcz22_0,hcz22_1,hcz22_2,hfz22_0,hfz22_1,hfz22_2⟩:=cz3_ BK607.out))
  go_ret
  exact ⟨z30_11,z30_10⟩
def hucksterlaw28_GossipGets.f (k:Nat) (l0:List Int):Option (Bool):=if (l0.length:Int) > 4000 then((hucksterlaw28_awake.f k).bind fun t610=>(some t610)) else((some (([]:List Int):List Int)).bind fun y611=>(if y611.length+l0.length<140737488355328 then((gossip_Get.f k (y611++l0)).bind fun bt617=>((hucksterref28_Get.f k l0).bind fun bt626=>((hucksterref28_Same.f k bt617.1 bt617.2.1 bt617.2.2.1 bt626.1 bt626.2.1 bt626.2.2.1).bind fun t635=>(if t635=true then(if ((bt617.2.2.2 == 0) == bt626.2.2.2)=true then(if ((bt617.2.2.2 == 2) == (!bt626.2.2.2))=true then((hucksterlaw28_awake.f k).bind fun t636=>(some t636)) else(some false)) else(some false)) else(some false))))) else(none)))
set_option maxHeartbeats 8000000 in
set_option maxRecDepth 100000 in
theorem hucksterlaw28_GossipGets.calls (k:Nat) (A0:Option Addr) (c0:Nat) (l0:List Int) (r:Bool) (w:World) (hr0:Kd.C (Kd.int .u8) w A0 l0.length l0) (hc0:l0.length≤c0) (h:hucksterlaw28_GossipGets.f k l0=some r) :
  Calls Try.prog 7 #[.slice A0 l0.length c0] w fun e w'=>e = .returned (.bool r)∧Below w.heap.size w w':=by
 have hu53:=Try.underlying53
 have HR0:=Aside0.mk hr0
 have HC0:=Aside0.mk hc0
 clear hr0 hc0
 have HB:=U (Below.refl w.heap.size w)
 have H:(if (l0.length:Int) > 4000 then((hucksterlaw28_awake.f k).bind fun t610=>(some t610)) else((some (([]:List Int):List Int)).bind fun y611=>(if y611.length+l0.length<140737488355328 then((gossip_Get.f k (y611++l0)).bind fun bt617=>((hucksterref28_Get.f k l0).bind fun bt626=>((hucksterref28_Same.f k bt617.1 bt617.2.1 bt617.2.2.1 bt626.1 bt626.2.1 bt626.2.2.1).bind fun t635=>(if t635=true then(if ((bt617.2.2.2 == 0) == bt626.2.2.2)=true then(if ((bt617.2.2.2 == 2) == (!bt626.2.2.2))=true then((hucksterlaw28_awake.f k).bind fun t636=>(some t636)) else(some false)) else(some false)) else(some false))))) else(none))))=some r:=h
 clear h
 by_cases c2:(l0.length:Int) > 4000
 ·rw [if_pos c2] at H
  have c2b0:decide (4000<(l0.length:Int))=true:=decide_eq_true c2
  have c2b1:decide (4000<l0.length)=true:=decide_eq_true (by omega)
  clear c2
  replace H:=Option.bind_eq_some_iff.mp H
  obtain ⟨t610,A30,H⟩:=H
  replace H:(some t610)=some r:=H
  have A3:=Aside0.mk A30
  clear A30
  obtain rfl:=Option.some.inj H
  go_enter Try.func7,Try.ntmps7
  go_wp2_with (first|((with_reducible refine gate_callee (f:=29) rfl ?_);refine goesL_ (some 10) rfl rfl Try.func29 z30_53 rfl #[] rfl z30_2 ?_;(with_reducible refine(hucksterlaw28_awake.calls k  t610 _ A3.out).mono ?_);rintro e w4 ⟨rfl,hb⟩;refine ⟨_,rfl,?_⟩;have n0_:=U (below_step z30_0 hb);clear HB;have HB:=n0_;clear n0_;(try clear hb);(try clear hb2);(try clear hk);(try clear hi)))
  go_ret
  exact ⟨z30_11,z30_0⟩
 ·rw [if_neg c2] at H
  have c2b0:decide (4000<(l0.length:Int))=false:=decide_eq_false c2
  have c2b1:decide (4000<l0.length)=false:=decide_eq_false (by omega)
  clear c2
  obtain ⟨y611,hy611⟩:∃ y_:List Int,y_=(([]:List Int)):=⟨_,rfl⟩
  replace H:(if y611.length+l0.length<140737488355328 then((gossip_Get.f k (y611++l0)).bind fun bt617=>((hucksterref28_Get.f k l0).bind fun bt626=>((hucksterref28_Same.f k bt617.1 bt617.2.1 bt617.2.2.1 bt626.1 bt626.2.1 bt626.2.2.1).bind fun t635=>(if t635=true then(if ((bt617.2.2.2 == 0) == bt626.2.2.2)=true then(if ((bt617.2.2.2 == 2) == (!bt626.2.2.2))=true then((hucksterlaw28_awake.f k).bind fun t636=>(some t636)) else(some false)) else(some false)) else(some false))))) else(none))=some r:=by first|(rw [hy611];with_reducible exact H)|(have H2_:=(Option.bind_some _ _).symm.trans H;rw [hy611];with_reducible exact H2_)|(have H2_:=(Option.bind_some _ _).symm.trans H;with_reducible exact H2_)|with_reducible exact H|(rw [hy611];exact H)|exact H
  have Ny611:=Aside0.mk hy611
  clear hy611
  by_cases c5:y611.length+l0.length<140737488355328
  ·rw [if_pos c5] at H
   have LMc5:=Aside0.mk c5
   clear c5
   obtain ⟨y614,hy614⟩:∃ y_:List Int,y_=(y611++l0):=⟨_,rfl⟩
   replace H:((gossip_Get.f k y614).bind fun bt617=>((hucksterref28_Get.f k l0).bind fun bt626=>((hucksterref28_Same.f k bt617.1 bt617.2.1 bt617.2.2.1 bt626.1 bt626.2.1 bt626.2.2.1).bind fun t635=>(if t635=true then(if ((bt617.2.2.2 == 0) == bt626.2.2.2)=true then(if ((bt617.2.2.2 == 2) == (!bt626.2.2.2))=true then((hucksterlaw28_awake.f k).bind fun t636=>(some t636)) else(some false)) else(some false)) else(some false)))))=some r:=by first|(rw [hy614];with_reducible exact H)|(have H2_:=(Option.bind_some _ _).symm.trans H;rw [hy614];with_reducible exact H2_)|(have H2_:=(Option.bind_some _ _).symm.trans H;with_reducible exact H2_)|with_reducible exact H|(rw [hy614];exact H)|exact H
   have Ny614:=Aside0.mk hy614
   clear hy614
   replace H:=Option.bind_eq_some_iff.mp H
   obtain ⟨⟨t617,t620,t621,t624⟩,A60,H⟩:=H
   replace H:((hucksterref28_Get.f k l0).bind fun bt626=>((hucksterref28_Same.f k t617 t620 t621 bt626.1 bt626.2.1 bt626.2.2.1).bind fun t635=>(if t635=true then(if ((t624 == 0) == bt626.2.2.2)=true then(if ((t624 == 2) == (!bt626.2.2.2))=true then((hucksterlaw28_awake.f k).bind fun t636=>(some t636)) else(some false)) else(some false)) else(some false))))=some r:=H
   have A6:=Aside0.mk A60
   clear A60
   replace H:=Option.bind_eq_some_iff.mp H
   obtain ⟨⟨t626,t629,t630,t633⟩,A70,H⟩:=H
   replace H:((hucksterref28_Same.f k t617 t620 t621 t626 t629 t630).bind fun t635=>(if t635=true then(if ((t624 == 0) == t633)=true then(if ((t624 == 2) == (!t633))=true then((hucksterlaw28_awake.f k).bind fun t636=>(some t636)) else(some false)) else(some false)) else(some false)))=some r:=H
   have A7:=Aside0.mk A70
   clear A70
   replace H:=Option.bind_eq_some_iff.mp H
   obtain ⟨t635,A80,H⟩:=H
   replace H:(if t635=true then(if ((t624 == 0) == t633)=true then(if ((t624 == 2) == (!t633))=true then((hucksterlaw28_awake.f k).bind fun t636=>(some t636)) else(some false)) else(some false)) else(some false))=some r:=H
   have A8:=Aside0.mk A80
   clear A80
   by_cases c9:t635=true
   ·subst c9
    have H1:(if ((t624 == 0) == t633)=true then(if ((t624 == 2) == (!t633))=true then((hucksterlaw28_awake.f k).bind fun t636=>(some t636)) else(some false)) else(some false))=some r:=by rw [if_pos rfl] at H;exact H
    clear H
    have H:=H1
    clear H1
    by_cases c10:((t624 == 0) == t633)=true
    ·rw [if_pos c10] at H
     have c10b0:((t624 == 0) == t633)=true:=c10
     (try(have c10b1:decide ((t624 == 0)=t633)=true:=by simpa using c10))
     (try(have c10b2:((t624 == 0) == t633)=true:=by simpa using c10))
     clear c10
     by_cases c11:((t624 == 2) == (!t633))=true
     ·rw [if_pos c11] at H
      have c11b0:((t624 == 2) == (!t633))=true:=c11
      (try(have c11b1:decide ((t624 == 2)=(!t633))=true:=by simpa using c11))
      (try(have c11b2:((t624 == 2) == (!t633))=true:=by simpa using c11))
      clear c11
      replace H:=Option.bind_eq_some_iff.mp H
      obtain ⟨t636,A120,H⟩:=H
      replace H:(some t636)=some r:=H
      have A12:=Aside0.mk A120
      clear A120
      obtain rfl:=Option.some.inj H
      go_enter Try.func7,Try.ntmps7
      go_wp2_with (first|((with_reducible refine gate_dst (N:=12) rfl ?_);refine Kd.R_lit (Kd.int .u8) _ 5 ?hg (N:=12) ?hd (xs:=([]:List Int)) (inner:=[]) (ok:=fun _=>True) (okp:=fun _=>True) ?hr ?hp (fun _ hk=>hk) trivial (Below.refl _ _) (Nat.le_refl _) (by simp) ?_;(case hd=>rfl);(case hg=>rfl);(case hr=>exact z30_22);(case hp=>exact(Reps.none _ _));intro v612 w13 ho14 hb hg_ hnew_;clear hg_ hnew_;(first|rw [←Ny611.out] at ho14|(simp only [Int.reduceToNat] at ho14;rw [←Ny611.out] at ho14));have n0_:=U (Kd.R_lower ho14 (below_size z30_0));have n1_:=U (below_step z30_0 hb);clear HB;have HO613:=n0_;have HB:=n1_;clear n0_ n1_;clear hb ho14)|((with_reducible refine gate_builtin (b:=.append) (xs:=#[.tmp 12,.tmp 13]) rfl ?_);at_builtin;refine Kd.R_append_rows (Kd.int .u8) (w0:=w) w.heap.size rfl (.tmp 12) (.tmp 13) 22 5 (.int .u8 0) 1 rfl Try.underlying22 info5 rfl (by decide) (by omega) v612 y611 l0 _ _ _ (fun _=>True) (fun _=>False) rfl rfl ?aO ?aR (fun _ _ h=>h) (fun _ h=>h.elim) ?aF ?aB ?aS ?aL ?_;(case aR=>exact z30_23);(case aB=>exact z30_0);(case aF=>exact(fun _ _=>trivial));(case aO=>exact z30_51);(case aS=>exact(below_size z30_0));(case aL=>have:=LMc5.out;omega);intro v615 w15 ho hb hg hat;rw [←Ny614.out] at ho;have n0_:=U (hb);have n1_:=U (ho);clear HB;clear HO613;have HB:=n0_;have HO616:=n1_;clear n0_ n1_;clear ho hb hg hat;obtain ⟨Ao16,co16,eo16⟩:=Kd.R_slice HO616.out;subst eo16)|((with_reducible refine gate_callee (f:=30) rfl ?_);refine goesL_ (some 15) rfl rfl Try.func30 z30_53 rfl #[.slice Ao16 y614.length co16] rfl z30_2 ?_;(with_reducible refine(gossip_Get.calls k _ _ y614 t617 t620 t621 t624 _ ?side1 ?side2 A6.out).mono ?_);(case side1=>exact z30_24);(case side2=>exact(Kd.R_reads' HO616.out).2.1);rintro e w17 ⟨v618,v622,rfl,ho0,ho1,hb⟩;refine ⟨_,rfl,?_⟩;have n0_:=U (Kd.R_below z30_4 hb);have n1_:=U (Kd.R_lower (Kd.R_mono (ok':=fun k_=>True) ho0 (fun _ hk_=>trivial)) (below_size z30_0));have n2_:=U (Kd.N_lower (Kd.N_mono (ok':=fun k_=>some k_≠(v618:Value).ownBlock∧some k_≠(.slice Ao16 y614.length co16:Value).ownBlock) ho1 (fun k_ hk_=>⟨hk_.2,(Kd.fresh' (Kd.R_lt z30_4) k_ hk_.1)⟩)) (below_size z30_0));have n3_:=U (below_step z30_0 hb);clear HO616;clear HB;have HO616:=n0_;have HO619:=n1_;have HO623:=n2_;have HB:=n3_;clear n0_ n1_ n2_ n3_;(try clear hb);(try clear hb2);(try clear hk);(try clear hi);(try clear ho0);(try clear ho1))|((with_reducible refine gate_dst (N:=3) rfl ?_);refine box_event ?hg (N:=3) ?hd (cs:=#[.slice none 0 0,.bool false,.slice none 0 0]) (t:=53) ?hr ?_;(case hd=>rfl);(case hg=>rfl);(case hr=>exact z30_22);intro gb625 hg w18 hbox hb;have n0_:=U (Kd.R_below z30_4 hb);have n1_:=U (Kd.R_below z30_16 hb);have n2_:=U (Kd.N_below (Kd.N_elderB z30_17 gb625 (Nat.le_of_eq hg.symm)) hb);have n3_:=U (below_step z30_0 hb);have n4_:=U (hbox);have n5_:=U ((by rw [hg];exact(below_size z30_0):w.heap.size≤gb625));have n6_:=U ((by rw [hg];exact(below_size z30_0):w.heap.size≤gb625));clear HO616;clear HO619;clear HO623;clear HB;have HO616:=n0_;have HO619:=n1_;have HO623:=n2_;have HB:=n3_;have BK625:=n4_;have GW625:=n5_;have GE625:=n6_;clear n0_ n1_ n2_ n3_ n4_ n5_ n6_;clear hb hbox hg;obtain ⟨Ao19,co19,eo19⟩:=Kd.R_slice HO619.out;subst eo19;obtain ⟨hcz20_0,hcz20_1,hcz20_2,hfz20_0,hfz20_1,hfz20_2⟩:=cz3_ BK625.out;obtain ⟨Ao21,co21,eo21⟩:=Kd.N_slice HO623.out;subst eo21)|((with_reducible refine gate_callee (f:=31) rfl ?_);refine goesL_ (some 20) rfl rfl Try.func31 z30_53 rfl #[.slice A0 l0.length c0] rfl z30_2 ?_;(with_reducible refine(hucksterref28_Get.calls k _ _ l0 t626 t629 t630 t633 _ ?side1 ?side2 A7.out).mono ?_);(case side1=>exact Kd.C_below HR0.out z30_1);(case side2=>exact HC0.out);rintro e w22 ⟨v627,v631,rfl,ho0,ho1,hb⟩;refine ⟨_,rfl,?_⟩;have n0_:=U (Kd.R_below z30_37 hb);have n1_:=U (Kd.R_elder' z30_12 (Kd.R_base ho0) hb);have n2_:=U (Kd.N_mono (Kd.N_told (Kd.N_told (Kd.N_old z30_25 hb) (Kd.R_base ho0)) (Kd.N_base ho1)) (fun _ h_=>h_.1));have n3_:=U (Kd.R_lower (Kd.R_new' (Kd.R_mono (ok':=fun k_=>True) ho0 (fun _ hk_=>trivial)) (Kd.R_lt z30_12)) (below_size z30_1));have n4_:=U (Kd.N_lower (Kd.N_mono (ok':=fun k_=>some k_≠(v627:Value).ownBlock∧some k_≠(.slice Ao16 y614.length co16:Value).ownBlock∧some k_≠(.slice Ao19 t617.length co19:Value).ownBlock∧some k_≠(.slice Ao21 t621.length co21:Value).ownBlock∧k_≠gb625) ho1 (fun k_ hk_=>⟨hk_.2,(Kd.fresh' (Kd.R_lt z30_37) k_ hk_.1),(Kd.fresh' (Kd.R_lt z30_12) k_ hk_.1),(Kd.fresh' (Kd.N_lt z30_25) k_ hk_.1),(Kd.freshB (g:=gb625) (o:=.cells #[.slice Ao19 t617.length co19,.bool t620,.slice Ao21 t621.length co21] 53 (0,0)) z30_18 k_ hk_.1)⟩)) (below_size z30_1));have n5_:=U (blk_below (g:=gb625) (o:=.cells #[.slice Ao19 t617.length co19,.bool t620,.slice Ao21 t621.length co21] 53 (0,0)) z30_18 hb);have n6_:=U (below_step z30_1 hb);clear HO616;clear HO619;clear HO623;clear BK625;clear HB;have HO616:=n0_;have HO619:=n1_;have HO623:=n2_;have HO628:=n3_;have HO632:=n4_;have BK625:=n5_;have HB:=n6_;clear n0_ n1_ n2_ n3_ n4_ n5_ n6_;(try clear hb);(try clear hb2);(try clear hk);(try clear hi);(try clear ho0);(try clear ho1))|((with_reducible refine gate_dst (N:=5) rfl ?_);refine box_event ?hg (N:=5) ?hd (cs:=#[.slice none 0 0,.bool false,.slice none 0 0]) (t:=53) ?hr ?_;(case hd=>rfl);(case hg=>rfl);(case hr=>exact z30_22);intro gb634 hg w23 hbox hb;have n0_:=U (Kd.R_below z30_4 hb);have n1_:=U (Kd.R_below z30_16 hb);have n2_:=U (Kd.N_below (Kd.N_elderB z30_17 gb634 (Nat.le_of_eq hg.symm)) hb);have n3_:=U (Kd.R_below z30_49 hb);have n4_:=U (Kd.N_below (Kd.N_elderB z30_50 gb634 (Nat.le_of_eq hg.symm)) hb);have n5_:=U (blk_below (g:=gb625) (o:=.cells #[.slice Ao19 t617.length co19,.bool t620,.slice Ao21 t621.length co21] 53 (0,0)) z30_7 hb);have n6_:=U (below_step z30_1 hb);have n7_:=U (hbox);have n8_:=U ((by rw [hg];exact(below_size z30_1):w.heap.size≤gb634));have n9_:=U ((by rw [hg];exact(below_size z30_1):w.heap.size≤gb634));have n10_:=U ((by rw [hg];exact Nat.ne_of_lt (blk_lt (g:=gb625) (o:=.cells #[.slice Ao19 t617.length co19,.bool t620,.slice Ao21 t621.length co21] 53 (0,0)) z30_7):gb625≠gb634));have n11_:=U ((by rw [hg];exact Nat.ne_of_gt (blk_lt (g:=gb625) (o:=.cells #[.slice Ao19 t617.length co19,.bool t620,.slice Ao21 t621.length co21] 53 (0,0)) z30_7):gb634≠gb625));clear HO616;clear HO619;clear HO623;clear HO628;clear HO632;clear BK625;clear HB;have HO616:=n0_;have HO619:=n1_;have HO623:=n2_;have HO628:=n3_;have HO632:=n4_;have BK625:=n5_;have HB:=n6_;have BK634:=n7_;have GW634:=n8_;have GE634:=n9_;have NB625_634:=n10_;have NB634_625:=n11_;clear n0_ n1_ n2_ n3_ n4_ n5_ n6_ n7_ n8_ n9_ n10_ n11_;clear hb hbox hg;obtain ⟨Ao24,co24,eo24⟩:=Kd.R_slice HO628.out;subst eo24;have hnb25:=NB634_625.out;have hnc25:=NB625_634.out;obtain ⟨hcz26_0,hcz26_1,hcz26_2,hfz26_0,hfz26_1,hfz26_2⟩:=cz3_ BK634.out;obtain ⟨Ao27,co27,eo27⟩:=Kd.N_slice HO632.out;subst eo27;obtain ⟨hcz28_0,hcz28_1,hcz28_2,hfz28_0,hfz28_1,hfz28_2⟩:=cz3_ BK625.out)|((with_reducible refine gate_callee (f:=32) rfl ?_);refine goesL_ (some 25) rfl rfl Try.func32 z30_53 rfl #[.agg #[.slice Ao19 t617.length co19,.bool t620,.slice Ao21 t621.length co21],.agg #[.slice Ao24 t626.length co24,.bool t629,.slice Ao27 t630.length co27]] rfl z30_2 ?_;(with_reducible refine(hucksterref28_Same.calls k _ _ t617 t620 _ _ t621 _ _ t626 t629 _ _ t630 true _ ?side1 ?side2 ?side3 ?side4 ?side5 ?side6 ?side7 ?side8 A8.out).mono ?_);(case side1=>refine(Kd.R_reads' (e:=3) (base:=w.heap.size) (ok:=fun k_=>(True∧some k_≠(.slice Ao24 t626.length co24:Value).ownBlock)) (n:=t617.length) (c:=co19) ?_).2.2;exact z30_38);(case side2=>exact(Kd.R_reads' HO619.out).2.1);(case side3=>refine(Kd.N_reads' (e:=30) (base:=w.heap.size) (ok:=fun k_=>(((((some k_≠(.slice Ao19 t617.length co19:Value).ownBlock∧some k_≠(.slice Ao16 y614.length co16:Value).ownBlock)∧k_≠gb625)∧some k_≠(.slice Ao24 t626.length co24:Value).ownBlock)∧some k_≠(.slice Ao27 t630.length co27:Value).ownBlock)∧k_≠gb634)) (n:=t621.length) (c:=co21) ?_).2.2;exact z30_26);(case side4=>exact(Kd.N_reads' HO623.out).2.1);(case side5=>refine(Kd.R_reads' (e:=3) (base:=w.heap.size) (ok:=fun k_=>(True∧some k_≠(.slice Ao19 t617.length co19:Value).ownBlock)) (n:=t626.length) (c:=co24) ?_).2.2;exact z30_39);(case side6=>exact(Kd.R_reads' HO628.out).2.1);(case side7=>refine(Kd.N_reads' (e:=30) (base:=w.heap.size) (ok:=fun k_=>((some k_≠(.slice Ao24 t626.length co24:Value).ownBlock∧(some k_≠(.slice Ao16 y614.length co16:Value).ownBlock∧(some k_≠(.slice Ao19 t617.length co19:Value).ownBlock∧(some k_≠(.slice Ao21 t621.length co21:Value).ownBlock∧k_≠gb625))))∧k_≠gb634)) (n:=t630.length) (c:=co27) ?_).2.2;exact z30_27);(case side8=>exact(Kd.N_reads' HO632.out).2.1);rintro e w29 ⟨rfl,hb⟩;refine ⟨_,rfl,?_⟩;have n0_:=U (Kd.R_below (by(with_reducible repeat(first|apply Kd.R_alloc|apply Kd.R_drewN|apply Kd.R_drew));exact(Kd.R_mono (Kd.R_far (p:=⟨gb634,2,none⟩) (Kd.R_far (p:=⟨gb634,1,none⟩) (Kd.R_far (p:=⟨gb634,0,none⟩) (Kd.R_types HO616.out BK634.out (by decide)) (fun _ hk=>hk.2) (.slice Ao24 t626.length co24)) (fun _ hk=>hk.2) (.bool t629)) (fun _ hk=>hk.2) (.slice Ao27 t630.length co27)) (fun _ h_=>h_.1))) hb);have n1_:=U (Kd.R_below z30_38 hb);have n2_:=U (Kd.N_below z30_26 hb);have n3_:=U (Kd.R_below z30_39 hb);have n4_:=U (Kd.N_below z30_27 hb);have n5_:=U (blk_below (g:=gb625) (o:=.cells #[.slice Ao19 t617.length co19,.bool t620,.slice Ao21 t621.length co21] 53 (0,0)) z30_5 hb);have n6_:=U (blk_below (g:=gb634) (o:=.cells #[.slice Ao24 t626.length co24,.bool t629,.slice Ao27 t630.length co27] 53 (0,0)) (by(with_reducible repeat(first|refine blk_drewN ?_ _|refine blk_drew ?_|refine blk_alloc ?_ _));refine blk_put (cs:=#[.slice Ao24 t626.length co24,.bool t629,.slice none 0 0]) ?_ 2 _ rfl;(with_reducible repeat(first|refine blk_drewN ?_ _|refine blk_drew ?_|refine blk_alloc ?_ _));refine blk_put (cs:=#[.slice Ao24 t626.length co24,.bool false,.slice none 0 0]) ?_ 1 _ rfl;(with_reducible repeat(first|refine blk_drewN ?_ _|refine blk_drew ?_|refine blk_alloc ?_ _));refine blk_put (cs:=#[.slice none 0 0,.bool false,.slice none 0 0]) ?_ 0 _ rfl;(with_reducible repeat(first|refine blk_drewN ?_ _|refine blk_drew ?_|refine blk_alloc ?_ _));exact BK634.out) hb);have n7_:=U (below_step z30_6 hb);clear HO616;clear HO619;clear HO623;clear HO628;clear HO632;clear BK625;clear BK634;clear HB;have HO616:=n0_;have HO619:=n1_;have HO623:=n2_;have HO628:=n3_;have HO632:=n4_;have BK625:=n5_;have BK634:=n6_;have HB:=n7_;clear n0_ n1_ n2_ n3_ n4_ n5_ n6_ n7_;(try clear hb);(try clear hb2);(try clear hk);(try clear hi))|(go_at_call 29;(with_reducible refine(hucksterlaw28_awake.calls k  t636 _ A12.out).mono ?_);rintro e w30 ⟨rfl,hb⟩;have n0_:=U (Kd.R_below z30_4 hb);have n1_:=U (Kd.R_below z30_16 hb);have n2_:=U (Kd.N_below z30_17 hb);have n3_:=U (Kd.R_below z30_49 hb);have n4_:=U (Kd.N_below z30_50 hb);have n5_:=U (blk_below (g:=gb625) (o:=.cells #[.slice Ao19 t617.length co19,.bool t620,.slice Ao21 t621.length co21] 53 (0,0)) z30_7 hb);have n6_:=U (blk_below (g:=gb634) (o:=.cells #[.slice Ao24 t626.length co24,.bool t629,.slice Ao27 t630.length co27] 53 (0,0)) (by(with_reducible repeat(first|refine blk_drewN ?_ _|refine blk_drew ?_|refine blk_alloc ?_ _));exact BK634.out) hb);have n7_:=U (below_step z30_6 hb);clear HO616;clear HO619;clear HO623;clear HO628;clear HO632;clear BK625;clear BK634;clear HB;have HO616:=n0_;have HO619:=n1_;have HO623:=n2_;have HO628:=n3_;have HO632:=n4_;have BK625:=n5_;have BK634:=n6_;have HB:=n7_;clear n0_ n1_ n2_ n3_ n4_ n5_ n6_ n7_;(try clear hb);(try clear hb2);(try clear hk);(try clear hi)))
      go_ret
      exact ⟨z30_11,z30_6⟩
     ·rw [if_neg c11] at H
      have c11b0:((t624 == 2) == (!t633))=false:=by simpa using c11
      (try(have c11b1:decide ((t624 == 2)=(!t633))=false:=by simpa using c11))
      (try(have c11b2:((t624 == 2) == (!t633))=false:=by simpa using c11))
      (try(have c11b3:¬ ((t624 == 2)=(!t633)):=by simpa using c11))
      clear c11
      obtain rfl:=Option.some.inj H
      go_enter Try.func7,Try.ntmps7
      go_wp2_with (first|((with_reducible refine gate_dst (N:=12) rfl ?_);refine Kd.R_lit (Kd.int .u8) _ 5 ?hg (N:=12) ?hd (xs:=([]:List Int)) (inner:=[]) (ok:=fun _=>True) (okp:=fun _=>True) ?hr ?hp (fun _ hk=>hk) trivial (Below.refl _ _) (Nat.le_refl _) (by simp) ?_;(case hd=>rfl);(case hg=>rfl);(case hr=>exact z30_22);(case hp=>exact(Reps.none _ _));intro v612 w31 ho32 hb hg_ hnew_;clear hg_ hnew_;(first|rw [←Ny611.out] at ho32|(simp only [Int.reduceToNat] at ho32;rw [←Ny611.out] at ho32));have n0_:=U (Kd.R_lower ho32 (below_size z30_0));have n1_:=U (below_step z30_0 hb);clear HB;have HO613:=n0_;have HB:=n1_;clear n0_ n1_;clear hb ho32)|((with_reducible refine gate_builtin (b:=.append) (xs:=#[.tmp 12,.tmp 13]) rfl ?_);at_builtin;refine Kd.R_append_rows (Kd.int .u8) (w0:=w) w.heap.size rfl (.tmp 12) (.tmp 13) 22 5 (.int .u8 0) 1 rfl Try.underlying22 info5 rfl (by decide) (by omega) v612 y611 l0 _ _ _ (fun _=>True) (fun _=>False) rfl rfl ?aO ?aR (fun _ _ h=>h) (fun _ h=>h.elim) ?aF ?aB ?aS ?aL ?_;(case aR=>exact z30_23);(case aB=>exact z30_0);(case aF=>exact(fun _ _=>trivial));(case aO=>exact z30_51);(case aS=>exact(below_size z30_0));(case aL=>have:=LMc5.out;omega);intro v615 w33 ho hb hg hat;rw [←Ny614.out] at ho;have n0_:=U (hb);have n1_:=U (ho);clear HB;clear HO613;have HB:=n0_;have HO616:=n1_;clear n0_ n1_;clear ho hb hg hat;obtain ⟨Ao34,co34,eo34⟩:=Kd.R_slice HO616.out;subst eo34)|((with_reducible refine gate_callee (f:=30) rfl ?_);refine goesL_ (some 15) rfl rfl Try.func30 z30_53 rfl #[.slice Ao34 y614.length co34] rfl z30_2 ?_;(with_reducible refine(gossip_Get.calls k _ _ y614 t617 t620 t621 t624 _ ?side1 ?side2 A6.out).mono ?_);(case side1=>exact z30_24);(case side2=>exact(Kd.R_reads' HO616.out).2.1);rintro e w35 ⟨v618,v622,rfl,ho0,ho1,hb⟩;refine ⟨_,rfl,?_⟩;have n0_:=U (Kd.R_below z30_4 hb);have n1_:=U (Kd.R_lower (Kd.R_mono (ok':=fun k_=>True) ho0 (fun _ hk_=>trivial)) (below_size z30_0));have n2_:=U (Kd.N_lower (Kd.N_mono (ok':=fun k_=>some k_≠(v618:Value).ownBlock∧some k_≠(.slice Ao34 y614.length co34:Value).ownBlock) ho1 (fun k_ hk_=>⟨hk_.2,(Kd.fresh' (Kd.R_lt z30_4) k_ hk_.1)⟩)) (below_size z30_0));have n3_:=U (below_step z30_0 hb);clear HO616;clear HB;have HO616:=n0_;have HO619:=n1_;have HO623:=n2_;have HB:=n3_;clear n0_ n1_ n2_ n3_;(try clear hb);(try clear hb2);(try clear hk);(try clear hi);(try clear ho0);(try clear ho1))|((with_reducible refine gate_dst (N:=3) rfl ?_);refine box_event ?hg (N:=3) ?hd (cs:=#[.slice none 0 0,.bool false,.slice none 0 0]) (t:=53) ?hr ?_;(case hd=>rfl);(case hg=>rfl);(case hr=>exact z30_22);intro gb625 hg w36 hbox hb;have n0_:=U (Kd.R_below z30_4 hb);have n1_:=U (Kd.R_below z30_16 hb);have n2_:=U (Kd.N_below (Kd.N_elderB z30_17 gb625 (Nat.le_of_eq hg.symm)) hb);have n3_:=U (below_step z30_0 hb);have n4_:=U (hbox);have n5_:=U ((by rw [hg];exact(below_size z30_0):w.heap.size≤gb625));have n6_:=U ((by rw [hg];exact(below_size z30_0):w.heap.size≤gb625));clear HO616;clear HO619;clear HO623;clear HB;have HO616:=n0_;have HO619:=n1_;have HO623:=n2_;have HB:=n3_;have BK625:=n4_;have GW625:=n5_;have GE625:=n6_;clear n0_ n1_ n2_ n3_ n4_ n5_ n6_;clear hb hbox hg;obtain ⟨Ao37,co37,eo37⟩:=Kd.R_slice HO619.out;subst eo37;obtain ⟨hcz38_0,hcz38_1,hcz38_2,hfz38_0,hfz38_1,hfz38_2⟩:=cz3_ BK625.out;obtain ⟨Ao39,co39,eo39⟩:=Kd.N_slice HO623.out;subst eo39)|((with_reducible refine gate_callee (f:=31) rfl ?_);refine goesL_ (some 20) rfl rfl Try.func31 z30_53 rfl #[.slice A0 l0.length c0] rfl z30_2 ?_;(with_reducible refine(hucksterref28_Get.calls k _ _ l0 t626 t629 t630 t633 _ ?side1 ?side2 A7.out).mono ?_);(case side1=>exact Kd.C_below HR0.out z30_1);(case side2=>exact HC0.out);rintro e w40 ⟨v627,v631,rfl,ho0,ho1,hb⟩;refine ⟨_,rfl,?_⟩;have n0_:=U (Kd.R_below z30_40 hb);have n1_:=U (Kd.R_elder' z30_13 (Kd.R_base ho0) hb);have n2_:=U (Kd.N_mono (Kd.N_told (Kd.N_told (Kd.N_old z30_28 hb) (Kd.R_base ho0)) (Kd.N_base ho1)) (fun _ h_=>h_.1));have n3_:=U (Kd.R_lower (Kd.R_new' (Kd.R_mono (ok':=fun k_=>True) ho0 (fun _ hk_=>trivial)) (Kd.R_lt z30_13)) (below_size z30_1));have n4_:=U (Kd.N_lower (Kd.N_mono (ok':=fun k_=>some k_≠(v627:Value).ownBlock∧some k_≠(.slice Ao34 y614.length co34:Value).ownBlock∧some k_≠(.slice Ao37 t617.length co37:Value).ownBlock∧some k_≠(.slice Ao39 t621.length co39:Value).ownBlock∧k_≠gb625) ho1 (fun k_ hk_=>⟨hk_.2,(Kd.fresh' (Kd.R_lt z30_40) k_ hk_.1),(Kd.fresh' (Kd.R_lt z30_13) k_ hk_.1),(Kd.fresh' (Kd.N_lt z30_28) k_ hk_.1),(Kd.freshB (g:=gb625) (o:=.cells #[.slice Ao37 t617.length co37,.bool t620,.slice Ao39 t621.length co39] 53 (0,0)) z30_19 k_ hk_.1)⟩)) (below_size z30_1));have n5_:=U (blk_below (g:=gb625) (o:=.cells #[.slice Ao37 t617.length co37,.bool t620,.slice Ao39 t621.length co39] 53 (0,0)) z30_19 hb);have n6_:=U (below_step z30_1 hb);clear HO616;clear HO619;clear HO623;clear BK625;clear HB;have HO616:=n0_;have HO619:=n1_;have HO623:=n2_;have HO628:=n3_;have HO632:=n4_;have BK625:=n5_;have HB:=n6_;clear n0_ n1_ n2_ n3_ n4_ n5_ n6_;(try clear hb);(try clear hb2);(try clear hk);(try clear hi);(try clear ho0);(try clear ho1))|((with_reducible refine gate_dst (N:=5) rfl ?_);refine box_event ?hg (N:=5) ?hd (cs:=#[.slice none 0 0,.bool false,.slice none 0 0]) (t:=53) ?hr ?_;(case hd=>rfl);(case hg=>rfl);(case hr=>exact z30_22);intro gb634 hg w41 hbox hb;have n0_:=U (Kd.R_below z30_4 hb);have n1_:=U (Kd.R_below z30_16 hb);have n2_:=U (Kd.N_below (Kd.N_elderB z30_17 gb634 (Nat.le_of_eq hg.symm)) hb);have n3_:=U (Kd.R_below z30_49 hb);have n4_:=U (Kd.N_below (Kd.N_elderB z30_50 gb634 (Nat.le_of_eq hg.symm)) hb);have n5_:=U (blk_below (g:=gb625) (o:=.cells #[.slice Ao37 t617.length co37,.bool t620,.slice Ao39 t621.length co39] 53 (0,0)) z30_7 hb);have n6_:=U (below_step z30_1 hb);have n7_:=U (hbox);have n8_:=U ((by rw [hg];exact(below_size z30_1):w.heap.size≤gb634));have n9_:=U ((by rw [hg];exact(below_size z30_1):w.heap.size≤gb634));have n10_:=U ((by rw [hg];exact Nat.ne_of_lt (blk_lt (g:=gb625) (o:=.cells #[.slice Ao37 t617.length co37,.bool t620,.slice Ao39 t621.length co39] 53 (0,0)) z30_7):gb625≠gb634));have n11_:=U ((by rw [hg];exact Nat.ne_of_gt (blk_lt (g:=gb625) (o:=.cells #[.slice Ao37 t617.length co37,.bool t620,.slice Ao39 t621.length co39] 53 (0,0)) z30_7):gb634≠gb625));clear HO616;clear HO619;clear HO623;clear HO628;clear HO632;clear BK625;clear HB;have HO616:=n0_;have HO619:=n1_;have HO623:=n2_;have HO628:=n3_;have HO632:=n4_;have BK625:=n5_;have HB:=n6_;have BK634:=n7_;have GW634:=n8_;have GE634:=n9_;have NB625_634:=n10_;have NB634_625:=n11_;clear n0_ n1_ n2_ n3_ n4_ n5_ n6_ n7_ n8_ n9_ n10_ n11_;clear hb hbox hg;obtain ⟨Ao42,co42,eo42⟩:=Kd.R_slice HO628.out;subst eo42;have hnb43:=NB634_625.out;have hnc43:=NB625_634.out;obtain ⟨hcz44_0,hcz44_1,hcz44_2,hfz44_0,hfz44_1,hfz44_2⟩:=cz3_ BK634.out;obtain ⟨Ao45,co45,eo45⟩:=Kd.N_slice HO632.out;subst eo45;obtain ⟨hcz46_0,hcz46_1,hcz46_2,hfz46_0,hfz46_1,hfz46_2⟩:=cz3_ BK625.out)|((with_reducible refine gate_callee (f:=32) rfl ?_);refine goesL_ (some 25) rfl rfl Try.func32 z30_53 rfl #[.agg #[.slice Ao37 t617.length co37,.bool t620,.slice Ao39 t621.length co39],.agg #[.slice Ao42 t626.length co42,.bool t629,.slice Ao45 t630.length co45]] rfl z30_2 ?_;(with_reducible refine(hucksterref28_Same.calls k _ _ t617 t620 _ _ t621 _ _ t626 t629 _ _ t630 true _ ?side1 ?side2 ?side3 ?side4 ?side5 ?side6 ?side7 ?side8 A8.out).mono ?_);(case side1=>refine(Kd.R_reads' (e:=3) (base:=w.heap.size) (ok:=fun k_=>(True∧some k_≠(.slice Ao42 t626.length co42:Value).ownBlock)) (n:=t617.length) (c:=co37) ?_).2.2;exact z30_41);(case side2=>exact(Kd.R_reads' HO619.out).2.1);(case side3=>refine(Kd.N_reads' (e:=30) (base:=w.heap.size) (ok:=fun k_=>(((((some k_≠(.slice Ao37 t617.length co37:Value).ownBlock∧some k_≠(.slice Ao34 y614.length co34:Value).ownBlock)∧k_≠gb625)∧some k_≠(.slice Ao42 t626.length co42:Value).ownBlock)∧some k_≠(.slice Ao45 t630.length co45:Value).ownBlock)∧k_≠gb634)) (n:=t621.length) (c:=co39) ?_).2.2;exact z30_29);(case side4=>exact(Kd.N_reads' HO623.out).2.1);(case side5=>refine(Kd.R_reads' (e:=3) (base:=w.heap.size) (ok:=fun k_=>(True∧some k_≠(.slice Ao37 t617.length co37:Value).ownBlock)) (n:=t626.length) (c:=co42) ?_).2.2;exact z30_42);(case side6=>exact(Kd.R_reads' HO628.out).2.1);(case side7=>refine(Kd.N_reads' (e:=30) (base:=w.heap.size) (ok:=fun k_=>((some k_≠(.slice Ao42 t626.length co42:Value).ownBlock∧(some k_≠(.slice Ao34 y614.length co34:Value).ownBlock∧(some k_≠(.slice Ao37 t617.length co37:Value).ownBlock∧(some k_≠(.slice Ao39 t621.length co39:Value).ownBlock∧k_≠gb625))))∧k_≠gb634)) (n:=t630.length) (c:=co45) ?_).2.2;exact z30_30);(case side8=>exact(Kd.N_reads' HO632.out).2.1);rintro e w47 ⟨rfl,hb⟩;refine ⟨_,rfl,?_⟩;have n0_:=U (Kd.R_below (by(with_reducible repeat(first|apply Kd.R_alloc|apply Kd.R_drewN|apply Kd.R_drew));exact(Kd.R_mono (Kd.R_far (p:=⟨gb634,2,none⟩) (Kd.R_far (p:=⟨gb634,1,none⟩) (Kd.R_far (p:=⟨gb634,0,none⟩) (Kd.R_types HO616.out BK634.out (by decide)) (fun _ hk=>hk.2) (.slice Ao42 t626.length co42)) (fun _ hk=>hk.2) (.bool t629)) (fun _ hk=>hk.2) (.slice Ao45 t630.length co45)) (fun _ h_=>h_.1))) hb);have n1_:=U (Kd.R_below z30_41 hb);have n2_:=U (Kd.N_below z30_29 hb);have n3_:=U (Kd.R_below z30_42 hb);have n4_:=U (Kd.N_below z30_30 hb);have n5_:=U (blk_below (g:=gb625) (o:=.cells #[.slice Ao37 t617.length co37,.bool t620,.slice Ao39 t621.length co39] 53 (0,0)) z30_5 hb);have n6_:=U (blk_below (g:=gb634) (o:=.cells #[.slice Ao42 t626.length co42,.bool t629,.slice Ao45 t630.length co45] 53 (0,0)) (by(with_reducible repeat(first|refine blk_drewN ?_ _|refine blk_drew ?_|refine blk_alloc ?_ _));refine blk_put (cs:=#[.slice Ao42 t626.length co42,.bool t629,.slice none 0 0]) ?_ 2 _ rfl;(with_reducible repeat(first|refine blk_drewN ?_ _|refine blk_drew ?_|refine blk_alloc ?_ _));refine blk_put (cs:=#[.slice Ao42 t626.length co42,.bool false,.slice none 0 0]) ?_ 1 _ rfl;(with_reducible repeat(first|refine blk_drewN ?_ _|refine blk_drew ?_|refine blk_alloc ?_ _));refine blk_put (cs:=#[.slice none 0 0,.bool false,.slice none 0 0]) ?_ 0 _ rfl;(with_reducible repeat(first|refine blk_drewN ?_ _|refine blk_drew ?_|refine blk_alloc ?_ _));exact BK634.out) hb);have n7_:=U (below_step z30_6 hb);clear HO616;clear HO619;clear HO623;clear HO628;clear HO632;clear BK625;clear BK634;clear HB;have HO616:=n0_;have HO619:=n1_;have HO623:=n2_;have HO628:=n3_;have HO632:=n4_;have BK625:=n5_;have BK634:=n6_;have HB:=n7_;clear n0_ n1_ n2_ n3_ n4_ n5_ n6_ n7_;(try clear hb);(try clear hb2);(try clear hk);(try clear hi)))
      go_ret
      exact ⟨z30_11,z30_6⟩
    ·rw [if_neg c10] at H
     have c10b0:((t624 == 0) == t633)=false:=by simpa using c10
     (try(have c10b1:decide ((t624 == 0)=t633)=false:=by simpa using c10))
     (try(have c10b2:((t624 == 0) == t633)=false:=by simpa using c10))
     (try(have c10b3:¬ ((t624 == 0)=t633):=by simpa using c10))
     clear c10
     obtain rfl:=Option.some.inj H
     go_enter Try.func7,Try.ntmps7
     go_wp2_with (first|((with_reducible refine gate_dst (N:=12) rfl ?_);refine Kd.R_lit (Kd.int .u8) _ 5 ?hg (N:=12) ?hd (xs:=([]:List Int)) (inner:=[]) (ok:=fun _=>True) (okp:=fun _=>True) ?hr ?hp (fun _ hk=>hk) trivial (Below.refl _ _) (Nat.le_refl _) (by simp) ?_;(case hd=>rfl);(case hg=>rfl);(case hr=>exact z30_22);(case hp=>exact(Reps.none _ _));intro v612 w48 ho49 hb hg_ hnew_;clear hg_ hnew_;(first|rw [←Ny611.out] at ho49|(simp only [Int.reduceToNat] at ho49;rw [←Ny611.out] at ho49));have n0_:=U (Kd.R_lower ho49 (below_size z30_0));have n1_:=U (below_step z30_0 hb);clear HB;have HO613:=n0_;have HB:=n1_;clear n0_ n1_;clear hb ho49)|((with_reducible refine gate_builtin (b:=.append) (xs:=#[.tmp 12,.tmp 13]) rfl ?_);at_builtin;refine Kd.R_append_rows (Kd.int .u8) (w0:=w) w.heap.size rfl (.tmp 12) (.tmp 13) 22 5 (.int .u8 0) 1 rfl Try.underlying22 info5 rfl (by decide) (by omega) v612 y611 l0 _ _ _ (fun _=>True) (fun _=>False) rfl rfl ?aO ?aR (fun _ _ h=>h) (fun _ h=>h.elim) ?aF ?aB ?aS ?aL ?_;(case aR=>exact z30_23);(case aB=>exact z30_0);(case aF=>exact(fun _ _=>trivial));(case aO=>exact z30_51);(case aS=>exact(below_size z30_0));(case aL=>have:=LMc5.out;omega);intro v615 w50 ho hb hg hat;rw [←Ny614.out] at ho;have n0_:=U (hb);have n1_:=U (ho);clear HB;clear HO613;have HB:=n0_;have HO616:=n1_;clear n0_ n1_;clear ho hb hg hat;obtain ⟨Ao51,co51,eo51⟩:=Kd.R_slice HO616.out;subst eo51)|((with_reducible refine gate_callee (f:=30) rfl ?_);refine goesL_ (some 15) rfl rfl Try.func30 z30_53 rfl #[.slice Ao51 y614.length co51] rfl z30_2 ?_;(with_reducible refine(gossip_Get.calls k _ _ y614 t617 t620 t621 t624 _ ?side1 ?side2 A6.out).mono ?_);(case side1=>exact z30_24);(case side2=>exact(Kd.R_reads' HO616.out).2.1);rintro e w52 ⟨v618,v622,rfl,ho0,ho1,hb⟩;refine ⟨_,rfl,?_⟩;have n0_:=U (Kd.R_below z30_4 hb);have n1_:=U (Kd.R_lower (Kd.R_mono (ok':=fun k_=>True) ho0 (fun _ hk_=>trivial)) (below_size z30_0));have n2_:=U (Kd.N_lower (Kd.N_mono (ok':=fun k_=>some k_≠(v618:Value).ownBlock∧some k_≠(.slice Ao51 y614.length co51:Value).ownBlock) ho1 (fun k_ hk_=>⟨hk_.2,(Kd.fresh' (Kd.R_lt z30_4) k_ hk_.1)⟩)) (below_size z30_0));have n3_:=U (below_step z30_0 hb);clear HO616;clear HB;have HO616:=n0_;have HO619:=n1_;have HO623:=n2_;have HB:=n3_;clear n0_ n1_ n2_ n3_;(try clear hb);(try clear hb2);(try clear hk);(try clear hi);(try clear ho0);(try clear ho1))|((with_reducible refine gate_dst (N:=3) rfl ?_);refine box_event ?hg (N:=3) ?hd (cs:=#[.slice none 0 0,.bool false,.slice none 0 0]) (t:=53) ?hr ?_;(case hd=>rfl);(case hg=>rfl);(case hr=>exact z30_22);intro gb625 hg w53 hbox hb;have n0_:=U (Kd.R_below z30_4 hb);have n1_:=U (Kd.R_below z30_16 hb);have n2_:=U (Kd.N_below (Kd.N_elderB z30_17 gb625 (Nat.le_of_eq hg.symm)) hb);have n3_:=U (below_step z30_0 hb);have n4_:=U (hbox);have n5_:=U ((by rw [hg];exact(below_size z30_0):w.heap.size≤gb625));have n6_:=U ((by rw [hg];exact(below_size z30_0):w.heap.size≤gb625));clear HO616;clear HO619;clear HO623;clear HB;have HO616:=n0_;have HO619:=n1_;have HO623:=n2_;have HB:=n3_;have BK625:=n4_;have GW625:=n5_;have GE625:=n6_;clear n0_ n1_ n2_ n3_ n4_ n5_ n6_;clear hb hbox hg;obtain ⟨Ao54,co54,eo54⟩:=Kd.R_slice HO619.out;subst eo54;obtain ⟨hcz55_0,hcz55_1,hcz55_2,hfz55_0,hfz55_1,hfz55_2⟩:=cz3_ BK625.out;obtain ⟨Ao56,co56,eo56⟩:=Kd.N_slice HO623.out;subst eo56)|((with_reducible refine gate_callee (f:=31) rfl ?_);refine goesL_ (some 20) rfl rfl Try.func31 z30_53 rfl #[.slice A0 l0.length c0] rfl z30_2 ?_;(with_reducible refine(hucksterref28_Get.calls k _ _ l0 t626 t629 t630 t633 _ ?side1 ?side2 A7.out).mono ?_);(case side1=>exact Kd.C_below HR0.out z30_1);(case side2=>exact HC0.out);rintro e w57 ⟨v627,v631,rfl,ho0,ho1,hb⟩;refine ⟨_,rfl,?_⟩;have n0_:=U (Kd.R_below z30_43 hb);have n1_:=U (Kd.R_elder' z30_14 (Kd.R_base ho0) hb);have n2_:=U (Kd.N_mono (Kd.N_told (Kd.N_told (Kd.N_old z30_31 hb) (Kd.R_base ho0)) (Kd.N_base ho1)) (fun _ h_=>h_.1));have n3_:=U (Kd.R_lower (Kd.R_new' (Kd.R_mono (ok':=fun k_=>True) ho0 (fun _ hk_=>trivial)) (Kd.R_lt z30_14)) (below_size z30_1));have n4_:=U (Kd.N_lower (Kd.N_mono (ok':=fun k_=>some k_≠(v627:Value).ownBlock∧some k_≠(.slice Ao51 y614.length co51:Value).ownBlock∧some k_≠(.slice Ao54 t617.length co54:Value).ownBlock∧some k_≠(.slice Ao56 t621.length co56:Value).ownBlock∧k_≠gb625) ho1 (fun k_ hk_=>⟨hk_.2,(Kd.fresh' (Kd.R_lt z30_43) k_ hk_.1),(Kd.fresh' (Kd.R_lt z30_14) k_ hk_.1),(Kd.fresh' (Kd.N_lt z30_31) k_ hk_.1),(Kd.freshB (g:=gb625) (o:=.cells #[.slice Ao54 t617.length co54,.bool t620,.slice Ao56 t621.length co56] 53 (0,0)) z30_20 k_ hk_.1)⟩)) (below_size z30_1));have n5_:=U (blk_below (g:=gb625) (o:=.cells #[.slice Ao54 t617.length co54,.bool t620,.slice Ao56 t621.length co56] 53 (0,0)) z30_20 hb);have n6_:=U (below_step z30_1 hb);clear HO616;clear HO619;clear HO623;clear BK625;clear HB;have HO616:=n0_;have HO619:=n1_;have HO623:=n2_;have HO628:=n3_;have HO632:=n4_;have BK625:=n5_;have HB:=n6_;clear n0_ n1_ n2_ n3_ n4_ n5_ n6_;(try clear hb);(try clear hb2);(try clear hk);(try clear hi);(try clear ho0);(try clear ho1))|((with_reducible refine gate_dst (N:=5) rfl ?_);refine box_event ?hg (N:=5) ?hd (cs:=#[.slice none 0 0,.bool false,.slice none 0 0]) (t:=53) ?hr ?_;(case hd=>rfl);(case hg=>rfl);(case hr=>exact z30_22);intro gb634 hg w58 hbox hb;have n0_:=U (Kd.R_below z30_4 hb);have n1_:=U (Kd.R_below z30_16 hb);have n2_:=U (Kd.N_below (Kd.N_elderB z30_17 gb634 (Nat.le_of_eq hg.symm)) hb);have n3_:=U (Kd.R_below z30_49 hb);have n4_:=U (Kd.N_below (Kd.N_elderB z30_50 gb634 (Nat.le_of_eq hg.symm)) hb);have n5_:=U (blk_below (g:=gb625) (o:=.cells #[.slice Ao54 t617.length co54,.bool t620,.slice Ao56 t621.length co56] 53 (0,0)) z30_7 hb);have n6_:=U (below_step z30_1 hb);have n7_:=U (hbox);have n8_:=U ((by rw [hg];exact(below_size z30_1):w.heap.size≤gb634));have n9_:=U ((by rw [hg];exact(below_size z30_1):w.heap.size≤gb634));have n10_:=U ((by rw [hg];exact Nat.ne_of_lt (blk_lt (g:=gb625) (o:=.cells #[.slice Ao54 t617.length co54,.bool t620,.slice Ao56 t621.length co56] 53 (0,0)) z30_7):gb625≠gb634));have n11_:=U ((by rw [hg];exact Nat.ne_of_gt (blk_lt (g:=gb625) (o:=.cells #[.slice Ao54 t617.length co54,.bool t620,.slice Ao56 t621.length co56] 53 (0,0)) z30_7):gb634≠gb625));clear HO616;clear HO619;clear HO623;clear HO628;clear HO632;clear BK625;clear HB;have HO616:=n0_;have HO619:=n1_;have HO623:=n2_;have HO628:=n3_;have HO632:=n4_;have BK625:=n5_;have HB:=n6_;have BK634:=n7_;have GW634:=n8_;have GE634:=n9_;have NB625_634:=n10_;have NB634_625:=n11_;clear n0_ n1_ n2_ n3_ n4_ n5_ n6_ n7_ n8_ n9_ n10_ n11_;clear hb hbox hg;obtain ⟨Ao59,co59,eo59⟩:=Kd.R_slice HO628.out;subst eo59;have hnb60:=NB634_625.out;have hnc60:=NB625_634.out;obtain ⟨hcz61_0,hcz61_1,hcz61_2,hfz61_0,hfz61_1,hfz61_2⟩:=cz3_ BK634.out;obtain ⟨Ao62,co62,eo62⟩:=Kd.N_slice HO632.out;subst eo62;obtain ⟨hcz63_0,hcz63_1,hcz63_2,hfz63_0,hfz63_1,hfz63_2⟩:=cz3_ BK625.out)|((with_reducible refine gate_callee (f:=32) rfl ?_);refine goesL_ (some 25) rfl rfl Try.func32 z30_53 rfl #[.agg #[.slice Ao54 t617.length co54,.bool t620,.slice Ao56 t621.length co56],.agg #[.slice Ao59 t626.length co59,.bool t629,.slice Ao62 t630.length co62]] rfl z30_2 ?_;(with_reducible refine(hucksterref28_Same.calls k _ _ t617 t620 _ _ t621 _ _ t626 t629 _ _ t630 true _ ?side1 ?side2 ?side3 ?side4 ?side5 ?side6 ?side7 ?side8 A8.out).mono ?_);(case side1=>refine(Kd.R_reads' (e:=3) (base:=w.heap.size) (ok:=fun k_=>(True∧some k_≠(.slice Ao59 t626.length co59:Value).ownBlock)) (n:=t617.length) (c:=co54) ?_).2.2;exact z30_44);(case side2=>exact(Kd.R_reads' HO619.out).2.1);(case side3=>refine(Kd.N_reads' (e:=30) (base:=w.heap.size) (ok:=fun k_=>(((((some k_≠(.slice Ao54 t617.length co54:Value).ownBlock∧some k_≠(.slice Ao51 y614.length co51:Value).ownBlock)∧k_≠gb625)∧some k_≠(.slice Ao59 t626.length co59:Value).ownBlock)∧some k_≠(.slice Ao62 t630.length co62:Value).ownBlock)∧k_≠gb634)) (n:=t621.length) (c:=co56) ?_).2.2;exact z30_32);(case side4=>exact(Kd.N_reads' HO623.out).2.1);(case side5=>refine(Kd.R_reads' (e:=3) (base:=w.heap.size) (ok:=fun k_=>(True∧some k_≠(.slice Ao54 t617.length co54:Value).ownBlock)) (n:=t626.length) (c:=co59) ?_).2.2;exact z30_45);(case side6=>exact(Kd.R_reads' HO628.out).2.1);(case side7=>refine(Kd.N_reads' (e:=30) (base:=w.heap.size) (ok:=fun k_=>((some k_≠(.slice Ao59 t626.length co59:Value).ownBlock∧(some k_≠(.slice Ao51 y614.length co51:Value).ownBlock∧(some k_≠(.slice Ao54 t617.length co54:Value).ownBlock∧(some k_≠(.slice Ao56 t621.length co56:Value).ownBlock∧k_≠gb625))))∧k_≠gb634)) (n:=t630.length) (c:=co62) ?_).2.2;exact z30_33);(case side8=>exact(Kd.N_reads' HO632.out).2.1);rintro e w64 ⟨rfl,hb⟩;refine ⟨_,rfl,?_⟩;have n0_:=U (Kd.R_below (by(with_reducible repeat(first|apply Kd.R_alloc|apply Kd.R_drewN|apply Kd.R_drew));exact(Kd.R_mono (Kd.R_far (p:=⟨gb634,2,none⟩) (Kd.R_far (p:=⟨gb634,1,none⟩) (Kd.R_far (p:=⟨gb634,0,none⟩) (Kd.R_types HO616.out BK634.out (by decide)) (fun _ hk=>hk.2) (.slice Ao59 t626.length co59)) (fun _ hk=>hk.2) (.bool t629)) (fun _ hk=>hk.2) (.slice Ao62 t630.length co62)) (fun _ h_=>h_.1))) hb);have n1_:=U (Kd.R_below z30_44 hb);have n2_:=U (Kd.N_below z30_32 hb);have n3_:=U (Kd.R_below z30_45 hb);have n4_:=U (Kd.N_below z30_33 hb);have n5_:=U (blk_below (g:=gb625) (o:=.cells #[.slice Ao54 t617.length co54,.bool t620,.slice Ao56 t621.length co56] 53 (0,0)) z30_5 hb);have n6_:=U (blk_below (g:=gb634) (o:=.cells #[.slice Ao59 t626.length co59,.bool t629,.slice Ao62 t630.length co62] 53 (0,0)) (by(with_reducible repeat(first|refine blk_drewN ?_ _|refine blk_drew ?_|refine blk_alloc ?_ _));refine blk_put (cs:=#[.slice Ao59 t626.length co59,.bool t629,.slice none 0 0]) ?_ 2 _ rfl;(with_reducible repeat(first|refine blk_drewN ?_ _|refine blk_drew ?_|refine blk_alloc ?_ _));refine blk_put (cs:=#[.slice Ao59 t626.length co59,.bool false,.slice none 0 0]) ?_ 1 _ rfl;(with_reducible repeat(first|refine blk_drewN ?_ _|refine blk_drew ?_|refine blk_alloc ?_ _));refine blk_put (cs:=#[.slice none 0 0,.bool false,.slice none 0 0]) ?_ 0 _ rfl;(with_reducible repeat(first|refine blk_drewN ?_ _|refine blk_drew ?_|refine blk_alloc ?_ _));exact BK634.out) hb);have n7_:=U (below_step z30_6 hb);clear HO616;clear HO619;clear HO623;clear HO628;clear HO632;clear BK625;clear BK634;clear HB;have HO616:=n0_;have HO619:=n1_;have HO623:=n2_;have HO628:=n3_;have HO632:=n4_;have BK625:=n5_;have BK634:=n6_;have HB:=n7_;clear n0_ n1_ n2_ n3_ n4_ n5_ n6_ n7_;(try clear hb);(try clear hb2);(try clear hk);(try clear hi)))
     go_ret
     exact ⟨z30_11,z30_6⟩
   ·replace c9:=Bool.eq_false_iff.mpr c9
    subst c9
    have H1:(some false)=some r:=by rw [if_neg (show ¬ (false=true) by decide)] at H;exact H
    clear H
    have H:=H1
    clear H1
    obtain rfl:=Option.some.inj H
    go_enter Try.func7,Try.ntmps7
    go_wp2_with (first|((with_reducible refine gate_dst (N:=12) rfl ?_);refine Kd.R_lit (Kd.int .u8) _ 5 ?hg (N:=12) ?hd (xs:=([]:List Int)) (inner:=[]) (ok:=fun _=>True) (okp:=fun _=>True) ?hr ?hp (fun _ hk=>hk) trivial (Below.refl _ _) (Nat.le_refl _) (by simp) ?_;(case hd=>rfl);(case hg=>rfl);(case hr=>exact z30_22);(case hp=>exact(Reps.none _ _));intro v612 w65 ho66 hb hg_ hnew_;clear hg_ hnew_;(first|rw [←Ny611.out] at ho66|(simp only [Int.reduceToNat] at ho66;rw [←Ny611.out] at ho66));have n0_:=U (Kd.R_lower ho66 (below_size z30_0));have n1_:=U (below_step z30_0 hb);clear HB;have HO613:=n0_;have HB:=n1_;clear n0_ n1_;clear hb ho66)|((with_reducible refine gate_builtin (b:=.append) (xs:=#[.tmp 12,.tmp 13]) rfl ?_);at_builtin;refine Kd.R_append_rows (Kd.int .u8) (w0:=w) w.heap.size rfl (.tmp 12) (.tmp 13) 22 5 (.int .u8 0) 1 rfl Try.underlying22 info5 rfl (by decide) (by omega) v612 y611 l0 _ _ _ (fun _=>True) (fun _=>False) rfl rfl ?aO ?aR (fun _ _ h=>h) (fun _ h=>h.elim) ?aF ?aB ?aS ?aL ?_;(case aR=>exact z30_23);(case aB=>exact z30_0);(case aF=>exact(fun _ _=>trivial));(case aO=>exact z30_51);(case aS=>exact(below_size z30_0));(case aL=>have:=LMc5.out;omega);intro v615 w67 ho hb hg hat;rw [←Ny614.out] at ho;have n0_:=U (hb);have n1_:=U (ho);clear HB;clear HO613;have HB:=n0_;have HO616:=n1_;clear n0_ n1_;clear ho hb hg hat;obtain ⟨Ao68,co68,eo68⟩:=Kd.R_slice HO616.out;subst eo68)|((with_reducible refine gate_callee (f:=30) rfl ?_);refine goesL_ (some 15) rfl rfl Try.func30 z30_53 rfl #[.slice Ao68 y614.length co68] rfl z30_2 ?_;(with_reducible refine(gossip_Get.calls k _ _ y614 t617 t620 t621 t624 _ ?side1 ?side2 A6.out).mono ?_);(case side1=>exact z30_24);(case side2=>exact(Kd.R_reads' HO616.out).2.1);rintro e w69 ⟨v618,v622,rfl,ho0,ho1,hb⟩;refine ⟨_,rfl,?_⟩;have n0_:=U (Kd.R_below z30_4 hb);have n1_:=U (Kd.R_lower (Kd.R_mono (ok':=fun k_=>True) ho0 (fun _ hk_=>trivial)) (below_size z30_0));have n2_:=U (Kd.N_lower (Kd.N_mono (ok':=fun k_=>some k_≠(v618:Value).ownBlock∧some k_≠(.slice Ao68 y614.length co68:Value).ownBlock) ho1 (fun k_ hk_=>⟨hk_.2,(Kd.fresh' (Kd.R_lt z30_4) k_ hk_.1)⟩)) (below_size z30_0));have n3_:=U (below_step z30_0 hb);clear HO616;clear HB;have HO616:=n0_;have HO619:=n1_;have HO623:=n2_;have HB:=n3_;clear n0_ n1_ n2_ n3_;(try clear hb);(try clear hb2);(try clear hk);(try clear hi);(try clear ho0);(try clear ho1))|((with_reducible refine gate_dst (N:=3) rfl ?_);refine box_event ?hg (N:=3) ?hd (cs:=#[.slice none 0 0,.bool false,.slice none 0 0]) (t:=53) ?hr ?_;(case hd=>rfl);(case hg=>rfl);(case hr=>exact z30_22);intro gb625 hg w70 hbox hb;have n0_:=U (Kd.R_below z30_4 hb);have n1_:=U (Kd.R_below z30_16 hb);have n2_:=U (Kd.N_below (Kd.N_elderB z30_17 gb625 (Nat.le_of_eq hg.symm)) hb);have n3_:=U (below_step z30_0 hb);have n4_:=U (hbox);have n5_:=U ((by rw [hg];exact(below_size z30_0):w.heap.size≤gb625));have n6_:=U ((by rw [hg];exact(below_size z30_0):w.heap.size≤gb625));clear HO616;clear HO619;clear HO623;clear HB;have HO616:=n0_;have HO619:=n1_;have HO623:=n2_;have HB:=n3_;have BK625:=n4_;have GW625:=n5_;have GE625:=n6_;clear n0_ n1_ n2_ n3_ n4_ n5_ n6_;clear hb hbox hg;obtain ⟨Ao71,co71,eo71⟩:=Kd.R_slice HO619.out;subst eo71;obtain ⟨hcz72_0,hcz72_1,hcz72_2,hfz72_0,hfz72_1,hfz72_2⟩:=cz3_ BK625.out;obtain ⟨Ao73,co73,eo73⟩:=Kd.N_slice HO623.out;subst eo73)|((with_reducible refine gate_callee (f:=31) rfl ?_);refine goesL_ (some 20) rfl rfl Try.func31 z30_53 rfl #[.slice A0 l0.length c0] rfl z30_2 ?_;(with_reducible refine(hucksterref28_Get.calls k _ _ l0 t626 t629 t630 t633 _ ?side1 ?side2 A7.out).mono ?_);(case side1=>exact Kd.C_below HR0.out z30_1);(case side2=>exact HC0.out);rintro e w74 ⟨v627,v631,rfl,ho0,ho1,hb⟩;refine ⟨_,rfl,?_⟩;have n0_:=U (Kd.R_below z30_46 hb);have n1_:=U (Kd.R_elder' z30_15 (Kd.R_base ho0) hb);have n2_:=U (Kd.N_mono (Kd.N_told (Kd.N_told (Kd.N_old z30_34 hb) (Kd.R_base ho0)) (Kd.N_base ho1)) (fun _ h_=>h_.1));have n3_:=U (Kd.R_lower (Kd.R_new' (Kd.R_mono (ok':=fun k_=>True) ho0 (fun _ hk_=>trivial)) (Kd.R_lt z30_15)) (below_size z30_1));have n4_:=U (Kd.N_lower (Kd.N_mono (ok':=fun k_=>some k_≠(v627:Value).ownBlock∧some k_≠(.slice Ao68 y614.length co68:Value).ownBlock∧some k_≠(.slice Ao71 t617.length co71:Value).ownBlock∧some k_≠(.slice Ao73 t621.length co73:Value).ownBlock∧k_≠gb625) ho1 (fun k_ hk_=>⟨hk_.2,(Kd.fresh' (Kd.R_lt z30_46) k_ hk_.1),(Kd.fresh' (Kd.R_lt z30_15) k_ hk_.1),(Kd.fresh' (Kd.N_lt z30_34) k_ hk_.1),(Kd.freshB (g:=gb625) (o:=.cells #[.slice Ao71 t617.length co71,.bool t620,.slice Ao73 t621.length co73] 53 (0,0)) z30_21 k_ hk_.1)⟩)) (below_size z30_1));have n5_:=U (blk_below (g:=gb625) (o:=.cells #[.slice Ao71 t617.length co71,.bool t620,.slice Ao73 t621.length co73] 53 (0,0)) z30_21 hb);have n6_:=U (below_step z30_1 hb);clear HO616;clear HO619;clear HO623;clear BK625;clear HB;have HO616:=n0_;have HO619:=n1_;have HO623:=n2_;have HO628:=n3_;have HO632:=n4_;have BK625:=n5_;have HB:=n6_;clear n0_ n1_ n2_ n3_ n4_ n5_ n6_;(try clear hb);(try clear hb2);(try clear hk);(try clear hi);(try clear ho0);(try clear ho1))|((with_reducible refine gate_dst (N:=5) rfl ?_);refine box_event ?hg (N:=5) ?hd (cs:=#[.slice none 0 0,.bool false,.slice none 0 0]) (t:=53) ?hr ?_;(case hd=>rfl);(case hg=>rfl);(case hr=>exact z30_22);intro gb634 hg w75 hbox hb;have n0_:=U (Kd.R_below z30_4 hb);have n1_:=U (Kd.R_below z30_16 hb);have n2_:=U (Kd.N_below (Kd.N_elderB z30_17 gb634 (Nat.le_of_eq hg.symm)) hb);have n3_:=U (Kd.R_below z30_49 hb);have n4_:=U (Kd.N_below (Kd.N_elderB z30_50 gb634 (Nat.le_of_eq hg.symm)) hb);have n5_:=U (blk_below (g:=gb625) (o:=.cells #[.slice Ao71 t617.length co71,.bool t620,.slice Ao73 t621.length co73] 53 (0,0)) z30_7 hb);have n6_:=U (below_step z30_1 hb);have n7_:=U (hbox);have n8_:=U ((by rw [hg];exact(below_size z30_1):w.heap.size≤gb634));have n9_:=U ((by rw [hg];exact(below_size z30_1):w.heap.size≤gb634));have n10_:=U ((by rw [hg];exact Nat.ne_of_lt (blk_lt (g:=gb625) (o:=.cells #[.slice Ao71 t617.length co71,.bool t620,.slice Ao73 t621.length co73] 53 (0,0)) z30_7):gb625≠gb634));have n11_:=U ((by rw [hg];exact Nat.ne_of_gt (blk_lt (g:=gb625) (o:=.cells #[.slice Ao71 t617.length co71,.bool t620,.slice Ao73 t621.length co73] 53 (0,0)) z30_7):gb634≠gb625));clear HO616;clear HO619;clear HO623;clear HO628;clear HO632;clear BK625;clear HB;have HO616:=n0_;have HO619:=n1_;have HO623:=n2_;have HO628:=n3_;have HO632:=n4_;have BK625:=n5_;have HB:=n6_;have BK634:=n7_;have GW634:=n8_;have GE634:=n9_;have NB625_634:=n10_;have NB634_625:=n11_;clear n0_ n1_ n2_ n3_ n4_ n5_ n6_ n7_ n8_ n9_ n10_ n11_;clear hb hbox hg;obtain ⟨Ao76,co76,eo76⟩:=Kd.R_slice HO628.out;subst eo76;have hnb77:=NB634_625.out;have hnc77:=NB625_634.out;obtain ⟨hcz78_0,hcz78_1,hcz78_2,hfz78_0,hfz78_1,hfz78_2⟩:=cz3_ BK634.out;obtain ⟨Ao79,co79,eo79⟩:=Kd.N_slice HO632.out;subst eo79;obtain ⟨hcz80_0,hcz80_1,hcz80_2,hfz80_0,hfz80_1,hfz80_2⟩:=cz3_ BK625.out)|((with_reducible refine gate_callee (f:=32) rfl ?_);refine goesL_ (some 25) rfl rfl Try.func32 z30_53 rfl #[.agg #[.slice Ao71 t617.length co71,.bool t620,.slice Ao73 t621.length co73],.agg #[.slice Ao76 t626.length co76,.bool t629,.slice Ao79 t630.length co79]] rfl z30_2 ?_;(with_reducible refine(hucksterref28_Same.calls k _ _ t617 t620 _ _ t621 _ _ t626 t629 _ _ t630 false _ ?side1 ?side2 ?side3 ?side4 ?side5 ?side6 ?side7 ?side8 A8.out).mono ?_);(case side1=>refine(Kd.R_reads' (e:=3) (base:=w.heap.size) (ok:=fun k_=>(True∧some k_≠(.slice Ao76 t626.length co76:Value).ownBlock)) (n:=t617.length) (c:=co71) ?_).2.2;exact z30_47);(case side2=>exact(Kd.R_reads' HO619.out).2.1);(case side3=>refine(Kd.N_reads' (e:=30) (base:=w.heap.size) (ok:=fun k_=>(((((some k_≠(.slice Ao71 t617.length co71:Value).ownBlock∧some k_≠(.slice Ao68 y614.length co68:Value).ownBlock)∧k_≠gb625)∧some k_≠(.slice Ao76 t626.length co76:Value).ownBlock)∧some k_≠(.slice Ao79 t630.length co79:Value).ownBlock)∧k_≠gb634)) (n:=t621.length) (c:=co73) ?_).2.2;exact z30_35);(case side4=>exact(Kd.N_reads' HO623.out).2.1);(case side5=>refine(Kd.R_reads' (e:=3) (base:=w.heap.size) (ok:=fun k_=>(True∧some k_≠(.slice Ao71 t617.length co71:Value).ownBlock)) (n:=t626.length) (c:=co76) ?_).2.2;exact z30_48);(case side6=>exact(Kd.R_reads' HO628.out).2.1);(case side7=>refine(Kd.N_reads' (e:=30) (base:=w.heap.size) (ok:=fun k_=>((some k_≠(.slice Ao76 t626.length co76:Value).ownBlock∧(some k_≠(.slice Ao68 y614.length co68:Value).ownBlock∧(some k_≠(.slice Ao71 t617.length co71:Value).ownBlock∧(some k_≠(.slice Ao73 t621.length co73:Value).ownBlock∧k_≠gb625))))∧k_≠gb634)) (n:=t630.length) (c:=co79) ?_).2.2;exact z30_36);(case side8=>exact(Kd.N_reads' HO632.out).2.1);rintro e w81 ⟨rfl,hb⟩;refine ⟨_,rfl,?_⟩;have n0_:=U (Kd.R_below (by(with_reducible repeat(first|apply Kd.R_alloc|apply Kd.R_drewN|apply Kd.R_drew));exact(Kd.R_mono (Kd.R_far (p:=⟨gb634,2,none⟩) (Kd.R_far (p:=⟨gb634,1,none⟩) (Kd.R_far (p:=⟨gb634,0,none⟩) (Kd.R_types HO616.out BK634.out (by decide)) (fun _ hk=>hk.2) (.slice Ao76 t626.length co76)) (fun _ hk=>hk.2) (.bool t629)) (fun _ hk=>hk.2) (.slice Ao79 t630.length co79)) (fun _ h_=>h_.1))) hb);have n1_:=U (Kd.R_below z30_47 hb);have n2_:=U (Kd.N_below z30_35 hb);have n3_:=U (Kd.R_below z30_48 hb);have n4_:=U (Kd.N_below z30_36 hb);have n5_:=U (blk_below (g:=gb625) (o:=.cells #[.slice Ao71 t617.length co71,.bool t620,.slice Ao73 t621.length co73] 53 (0,0)) z30_5 hb);have n6_:=U (blk_below (g:=gb634) (o:=.cells #[.slice Ao76 t626.length co76,.bool t629,.slice Ao79 t630.length co79] 53 (0,0)) (by(with_reducible repeat(first|refine blk_drewN ?_ _|refine blk_drew ?_|refine blk_alloc ?_ _));refine blk_put (cs:=#[.slice Ao76 t626.length co76,.bool t629,.slice none 0 0]) ?_ 2 _ rfl;(with_reducible repeat(first|refine blk_drewN ?_ _|refine blk_drew ?_|refine blk_alloc ?_ _));refine blk_put (cs:=#[.slice Ao76 t626.length co76,.bool false,.slice none 0 0]) ?_ 1 _ rfl;(with_reducible repeat(first|refine blk_drewN ?_ _|refine blk_drew ?_|refine blk_alloc ?_ _));refine blk_put (cs:=#[.slice none 0 0,.bool false,.slice none 0 0]) ?_ 0 _ rfl;(with_reducible repeat(first|refine blk_drewN ?_ _|refine blk_drew ?_|refine blk_alloc ?_ _));exact BK634.out) hb);have n7_:=U (below_step z30_6 hb);clear HO616;clear HO619;clear HO623;clear HO628;clear HO632;clear BK625;clear BK634;clear HB;have HO616:=n0_;have HO619:=n1_;have HO623:=n2_;have HO628:=n3_;have HO632:=n4_;have BK625:=n5_;have BK634:=n6_;have HB:=n7_;clear n0_ n1_ n2_ n3_ n4_ n5_ n6_ n7_;(try clear hb);(try clear hb2);(try clear hk);(try clear hi)))
    go_ret
    exact ⟨z30_11,z30_6⟩
  ·rw [if_neg c5] at H
   exact absurd H (by simp)
def hucksterlaw28_GossipGets.Pure:Prop:=∀ (l0:List Int),l0.length≤maxLen→l0.length*1≤140737488351232→(∀ x ∈ l0,(Lit.int .u8 x).wf=true)→∃ k,hucksterlaw28_GossipGets.f k l0=some true
theorem hucksterlaw28_GossipGets.walk (P:hucksterlaw28_GossipGets.Pure) (a0:Option Addr) (len0 cap0:Nat) (z0:List Int) (w:World) (w0:(a0=none∧len0=0∧cap0=0∧z0=[])∨∃ x,a0=some x∧len0≤cap0∧cap0≤maxLen∧z0.length=cap0∧(∀ i,i<z0.length→w.cell? (x.add i)=some (.int .u8 (z0.getD i 0)))∧∀ n ∈ z0,(Lit.int .u8 n).wf=true) (y0:len0*1≤140737488351232) :
  Calls Try.prog 7 #[.slice a0 len0 cap0] w fun e w'=>e = .returned (.bool true)∧Below w.heap.size w w':=by
 obtain ⟨l0,rfl,hr0,hm0,hw0,hc0⟩:=ReadsInt.ofRowC w0
 obtain ⟨k,h⟩:=P l0 hm0 y0 hw0
 refine(hucksterlaw28_GossipGets.calls k _ _ l0 true w (Kd.C_of_reads (d:=(0:Int)) (h1:=fun _=>rfl) hr0) hc0 h).mono ?_
 rintro e w' ⟨rfl,hd⟩
 exact ⟨rfl,hd⟩
end Go.Proofs.Ytgocnchjpecafaa.PEv
