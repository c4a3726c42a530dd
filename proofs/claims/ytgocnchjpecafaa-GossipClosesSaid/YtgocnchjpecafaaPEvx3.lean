/- a part -/
import Derived.Test.YtgocnchjpecafaaPEvx0
namespace Go.Proofs.Ytgocnchjpecafaa.PEv
open Go.RowKit Go.Proofs.YtgocnchjpecafaaW.PrintWords Go.Proofs.YtgocnchjpecafaaW.PrintLast Go.Proofs.YtgocnchjpecafaaW.PrintMore
attribute [local go_sem] max2_int min2_int max_two min_two max_three min_three max_four min_four
set_option linter.unusedVariables false
set_option linter.unusedSimpArgs false
set_option maxHeartbeats 8000000
set_option maxRecDepth 100000
theorem z3_0 {P:Prop} (h:P:=by repeat(first|(with_reducible first|exact HB.out|apply below_alloc|apply pw_below_drewN|apply below_drew1)|exact HB.out)):P:=h
theorem z3_1 {P:Prop} (h:P:=by repeat(first|(with_reducible first|exact HB.out|apply below_alloc|apply pw_below_drewN|apply below_drew1|refine below_set ?_ GE103.out|refine below_set ?_ GE104.out)|exact HB.out)):P:=h
theorem z3_2 {P:Prop} (h:P:=by(with_reducible repeat(first|refine blk_drewN ?_ _|refine blk_drew ?_|refine blk_alloc ?_ _));exact BK103.out):P:=h
theorem z3_3 {P:Prop} (h:P:=by simp only [Act.put,List.setIfInBounds_toArray,List.set_cons_zero,List.set_cons_succ,i64_w,i32_w];rfl):P:=h
theorem z3_4 {P:Prop} (h:P:=by repeat(first|(with_reducible first|exact HB.out|apply below_alloc|apply pw_below_drewN|apply below_drew1|refine below_set ?_ GE103.out)|exact HB.out)):P:=h
theorem z3_5 {P:Prop} (h:P:=by(try simp only [List.map_toArray,List.map_cons,List.map_nil]);first|done|rfl|(simp only [List.length_drop,List.length_take];rfl)):P:=h
theorem z3_6 {P:Prop} (h:P:=by(with_reducible repeat(first|refine blk_drewN ?_ _|refine blk_drew ?_|refine blk_alloc ?_ _));exact BK104.out):P:=h
theorem z3_7 {P:Prop} (h:P:=by repeat(first|(with_reducible first|exact HB.out|apply below_alloc|apply pw_below_drewN|apply below_drew1|refine below_set ?_ GE101.out)|exact HB.out)):P:=h
theorem z3_8 {P:Prop} (h:P:=by(with_reducible repeat(first|refine blk_drewN ?_ _|refine blk_drew ?_|refine blk_alloc ?_ _));exact BK101.out):P:=h
theorem z3_9 {P:Prop} (h:P:=by first|rfl|(simp [errW_none,errW_some]<;>rfl)|(simp [*,errW_none,errW_some]<;>rfl)):P:=h
theorem z3_10 {P:Prop} (h:P:=by first|(go_simp;done)|(go_simp;rfl)):P:=h
theorem z3_11 {P:Prop} (h:P:=by repeat(first|exact(Kd.C_below HR0_2.out HB.out)|(with_reducible refine Kd.C_alloc ?_ _)|(with_reducible refine Kd.C_drewN ?_ _)|(with_reducible refine Kd.C_drew ?_))):P:=h
theorem z3_12 {P:Prop} (h:P:=by repeat(first|exact(Kd.C_below HR1_2.out HB.out)|(with_reducible refine Kd.C_alloc ?_ _)|(with_reducible refine Kd.C_drewN ?_ _)|(with_reducible refine Kd.C_drew ?_))):P:=h
theorem z3_13 {P:Prop} (h:P:=by repeat(first|(with_reducible first|exact HB.out|apply below_alloc|apply pw_below_drewN|apply below_drew1|refine below_set ?_ GE109.out)|exact HB.out)):P:=h
theorem z3_14 {P:Prop} (h:P:=by show Act.put _ (some 11) _=_;simp only [Act.put,List.setIfInBounds_toArray,List.set_cons_zero,List.set_cons_succ,i64_w,i32_w];rfl):P:=h
theorem z3_15 {P:Prop} (h:P:=by show Act.put _ (some 8) _=_;simp only [Act.put,List.setIfInBounds_toArray,List.set_cons_zero,List.set_cons_succ,i64_w,i32_w];rfl):P:=h
theorem z3_16 {P:Prop} (h:P:=by repeat(first|(with_reducible first|exact HB.out|apply below_alloc|apply pw_below_drewN|apply below_drew1|refine below_set ?_ GE101.out|refine below_set ?_ GE102.out)|exact HB.out)):P:=h
theorem z3_17 {P:Prop} (h:P:=by kernel_rfl):P:=h
def dots_Less.f (a0_0:Int) (a0_1:Int) (a1_0:Int) (a1_1:Int):Option (Bool):=if a0_0<a1_0 then(some true) else(if a0_0=a1_0 then(some (decide (a0_1<a1_1))) else(some false))
theorem dots_Less.calls (a0_0:Int) (a0_1:Int) (a1_0:Int) (a1_1:Int) (r:Bool) (w:World) (h:dots_Less.f a0_0 a0_1 a1_0 a1_1=some r) :
  Calls Try.prog 63 #[.agg #[.int .i64 a0_0,.int .i64 a0_1],.agg #[.int .i64 a1_0,.int .i64 a1_1]] w λe w'=>e = .returned (.bool r)/\Below w.heap.size w w':=by
 have hu25:=Try.underlying25
 have HB:=U (Below.refl w.heap.size w)
 have H:(if a0_0<a1_0 then(some true) else(if a0_0=a1_0 then(some (decide (a0_1<a1_1))) else(some false)))=some r:=h
 clear h
 by_cases c3:a0_0<a1_0
 ·rw [if_pos c3] at H
  have c3b0:decide (a0_0<a1_0)=true:=dT_ c3
  clear c3
  obtain rfl:=sI_ H
  go_enter Try.func63,Try.ntmps63
  go_wp2_with (first|((with_reducible refine gate_dst (N:=2) rfl ?_);refine box_event ?hg (N:=2) ?hd (cs:=#[.int .i64 a0_0,.int .i64 a0_1]) (t:=25) ?hr ?_;(case hd=>rfl);(case hg=>rfl);(case hr=>exact z3_10);intro gb101 hg w4 hbox hb;have BK101:=U (hbox);have GW101:=U ((by rw [hg];exact(below_size z3_0):w.heap.size<=gb101));have GE101:=U ((by rw [hg];exact(below_size z3_0):w.heap.size<=gb101));replace HB:=U (below_step z3_0 hb);clear hb hbox hg)|((with_reducible refine gate_dst (N:=3) rfl ?_);refine box_event ?hg (N:=3) ?hd (cs:=#[.int .i64 a1_0,.int .i64 a1_1]) (t:=25) ?hr ?_;(case hd=>rfl);(case hg=>rfl);(case hr=>exact z3_10);intro gb102 hg w5 hbox hb;have BK102:=U (hbox);have GW102:=U ((by rw [hg];exact(below_size z3_7):w.heap.size<=gb102));have GE102:=U ((by rw [hg];exact(below_size z3_7):w.heap.size<=gb102));replace HB:=U (below_step z3_7 hb);have NB101_102:=U ((by rw [hg];exact Nat.ne_of_lt (blk_lt (g:=gb101) (o:=.cells #[.int .i64 a0_0,.int .i64 a0_1] 25 (0,0)) z3_8):gb101≠gb102));have NB102_101:=U ((by rw [hg];exact Nat.ne_of_gt (blk_lt (g:=gb101) (o:=.cells #[.int .i64 a0_0,.int .i64 a0_1] 25 (0,0)) z3_8):gb102≠gb101));replace BK101:=U (blk_below (g:=gb101) (o:=.cells #[.int .i64 a0_0,.int .i64 a0_1] 25 (0,0)) z3_8 hb);clear hb hbox hg;have hnb6:=NB101_102.out;have hnc6:=NB102_101.out;obtain ⟨hcz7_0,hcz7_1,hfz7_0,hfz7_1⟩:=cz2_ BK101.out;obtain ⟨hcz8_0,hcz8_1,hfz8_0,hfz8_1⟩:=cz2_ BK102.out))
  go_ret
  exact ⟨z3_9,z3_16⟩
 rw [if_neg c3] at H
 have c3b0:decide (a0_0<a1_0)=false:=dF_ c3
 clear c3
 by_cases c9:a0_0=a1_0
 rotate_left
 ·rw [if_neg c9] at H
  have c9b0:(a0_0 == a1_0)=false:=beq_eq_false_iff_ne.mpr c9
  have c9b1:(a0_0 != a1_0)=true:=bne_iff_ne.mpr c9
  obtain rfl:=sI_ H
  go_enter Try.func63,Try.ntmps63
  go_wp2_with (first|((with_reducible refine gate_dst (N:=2) rfl ?_);refine box_event ?hg (N:=2) ?hd (cs:=#[.int .i64 a0_0,.int .i64 a0_1]) (t:=25) ?hr ?_;(case hd=>rfl);(case hg=>rfl);(case hr=>exact z3_10);intro gb101 hg w15 hbox hb;have BK101:=U (hbox);have GW101:=U ((by rw [hg];exact(below_size z3_0):w.heap.size<=gb101));have GE101:=U ((by rw [hg];exact(below_size z3_0):w.heap.size<=gb101));replace HB:=U (below_step z3_0 hb);clear hb hbox hg)|((with_reducible refine gate_dst (N:=3) rfl ?_);refine box_event ?hg (N:=3) ?hd (cs:=#[.int .i64 a1_0,.int .i64 a1_1]) (t:=25) ?hr ?_;(case hd=>rfl);(case hg=>rfl);(case hr=>exact z3_10);intro gb102 hg w16 hbox hb;have BK102:=U (hbox);have GW102:=U ((by rw [hg];exact(below_size z3_7):w.heap.size<=gb102));have GE102:=U ((by rw [hg];exact(below_size z3_7):w.heap.size<=gb102));replace HB:=U (below_step z3_7 hb);have NB101_102:=U ((by rw [hg];exact Nat.ne_of_lt (blk_lt (g:=gb101) (o:=.cells #[.int .i64 a0_0,.int .i64 a0_1] 25 (0,0)) z3_8):gb101≠gb102));have NB102_101:=U ((by rw [hg];exact Nat.ne_of_gt (blk_lt (g:=gb101) (o:=.cells #[.int .i64 a0_0,.int .i64 a0_1] 25 (0,0)) z3_8):gb102≠gb101));replace BK101:=U (blk_below (g:=gb101) (o:=.cells #[.int .i64 a0_0,.int .i64 a0_1] 25 (0,0)) z3_8 hb);clear hb hbox hg;have hnb17:=NB101_102.out;have hnc17:=NB102_101.out;obtain ⟨hcz18_0,hcz18_1,hfz18_0,hfz18_1⟩:=cz2_ BK101.out;obtain ⟨hcz19_0,hcz19_1,hfz19_0,hfz19_1⟩:=cz2_ BK102.out))
  go_ret
  exact ⟨z3_9,z3_16⟩
 rw [if_pos c9] at H
 have c9b0:(a0_0 == a1_0)=true:=beq_iff_eq.mpr c9
 have c9b1:(a0_0 != a1_0)=false:=bne_eq_false_iff_eq.mpr c9
 clear c9
 obtain rfl:=sI_ H
 go_enter Try.func63,Try.ntmps63
 go_wp2_with (first|((with_reducible refine gate_dst (N:=2) rfl ?_);refine box_event ?hg (N:=2) ?hd (cs:=#[.int .i64 a0_0,.int .i64 a0_1]) (t:=25) ?hr ?_;(case hd=>rfl);(case hg=>rfl);(case hr=>exact z3_10);intro gb101 hg w10 hbox hb;have BK101:=U (hbox);have GW101:=U ((by rw [hg];exact(below_size z3_0):w.heap.size<=gb101));have GE101:=U ((by rw [hg];exact(below_size z3_0):w.heap.size<=gb101));replace HB:=U (below_step z3_0 hb);clear hb hbox hg)|((with_reducible refine gate_dst (N:=3) rfl ?_);refine box_event ?hg (N:=3) ?hd (cs:=#[.int .i64 a1_0,.int .i64 a1_1]) (t:=25) ?hr ?_;(case hd=>rfl);(case hg=>rfl);(case hr=>exact z3_10);intro gb102 hg w11 hbox hb;have BK102:=U (hbox);have GW102:=U ((by rw [hg];exact(below_size z3_7):w.heap.size<=gb102));have GE102:=U ((by rw [hg];exact(below_size z3_7):w.heap.size<=gb102));replace HB:=U (below_step z3_7 hb);have NB101_102:=U ((by rw [hg];exact Nat.ne_of_lt (blk_lt (g:=gb101) (o:=.cells #[.int .i64 a0_0,.int .i64 a0_1] 25 (0,0)) z3_8):gb101≠gb102));have NB102_101:=U ((by rw [hg];exact Nat.ne_of_gt (blk_lt (g:=gb101) (o:=.cells #[.int .i64 a0_0,.int .i64 a0_1] 25 (0,0)) z3_8):gb102≠gb101));replace BK101:=U (blk_below (g:=gb101) (o:=.cells #[.int .i64 a0_0,.int .i64 a0_1] 25 (0,0)) z3_8 hb);clear hb hbox hg;have hnb12:=NB101_102.out;have hnc12:=NB102_101.out;obtain ⟨hcz13_0,hcz13_1,hfz13_0,hfz13_1⟩:=cz2_ BK101.out;obtain ⟨hcz14_0,hcz14_1,hfz14_0,hfz14_1⟩:=cz2_ BK102.out))
 go_ret
 exact ⟨z3_9,z3_16⟩
def clock_Check.f (l0:List Int):Option (Int):=some (if ClockBase.okC l0=true then 0 else 1)
theorem clock_Check.calls (A0:Option Addr) (c0:Nat) (l0:List Int) (r:Int) (w:World) (hr0:Kd.C (Kd.int .i64) w A0 l0.length l0) (hc0:l0.length<=c0) (h:clock_Check.f l0=some r) :
  Calls Try.prog 71 #[.slice A0 l0.length c0] w λe w'=>e = .returned (.int .i64 r)/\Drawn0 w w':=by
 obtain rfl:=sI_ h
 exact(ClockBase.check_calls A0 c0 l0 w hr0).mono λe w' hh=>⟨hh.1,⟨hh.2⟩⟩
def clock_Sum.f (l0:List Int):Option (Int):=some (ClockBase.sumS l0)
theorem clock_Sum.calls (A0:Option Addr) (c0:Nat) (l0:List Int) (r:Int) (w:World) (hr0:Kd.C (Kd.int .i64) w A0 l0.length l0) (hc0:l0.length<=c0) (h:clock_Sum.f l0=some r) :
  Calls Try.prog 62 #[.slice A0 l0.length c0] w λe w'=>e = .returned (.int .i64 r)/\Below w.heap.size w w':=by
 obtain rfl:=sI_ h
 exact ClockBase.Sum_calls A0 c0 l0 w hr0
def event_Order_1.f (a0_0:Int) (a0_1:Int) (l0_2:List Int) (l0_3:List (S48)) (a1_0:Int) (a1_1:Int) (l1_2:List Int) (l1_3:List (S48)):Option (Int):=(clock_Sum.f l0_2).bind λt105=>((clock_Sum.f l1_2).bind λt106=>(if (wrap64 (t105 - t106))=0 then((dots_Less.f a0_0 a0_1 a1_0 a1_1).bind λt107=>(if t107=true then(some (-1)) else((dots_Less.f a1_0 a1_1 a0_0 a0_1).bind λt108=>(if t108=true then(some 1) else(some 0))))) else(some (wrap64 (t105 - t106)))))
def event_Order_1.T1:Bool×List (List Nat×List Nat):=(true,[([],[]),([0],[0]),([1],[1]),([],[]),([3],[3]),([4,2],[4]),([2,5],[2,5]),([6,5,0,1,2,3,4,5,6],[6])])
def event_Order_1.B1:List Nat:=[0,1,3,0,8,31,63,127]
theorem event_Order_1.tab1:rtab .any (opsOf Try.f61 1)=event_Order_1.T1:=by kernel_rfl
theorem event_Order_1.bits1:waitsOk event_Order_1.T1.2 event_Order_1.B1=true:=by kernel_rfl
theorem event_Order_1.calls (a0_0:Int) (a0_1:Int) (A0_2:Option Addr) (c0_2:Nat) (l0_2:List Int) (A0_3:Option Addr) (c0_3:Nat) (l0_3:List (S48)) (a1_0:Int) (a1_1:Int) (A1_2:Option Addr) (c1_2:Nat) (l1_2:List Int) (A1_3:Option Addr) (c1_3:Nat) (l1_3:List (S48)) (r:Int) (w:World) (hr0_2:Kd.C (Kd.int .i64) w A0_2 l0_2.length l0_2) (hc0_2:l0_2.length<=c0_2) (hr0_3:Kd.C k48 w A0_3 l0_3.length l0_3) (hc0_3:l0_3.length<=c0_3) (hr1_2:Kd.C (Kd.int .i64) w A1_2 l1_2.length l1_2) (hc1_2:l1_2.length<=c1_2) (hr1_3:Kd.C k48 w A1_3 l1_3.length l1_3) (hc1_3:l1_3.length<=c1_3) (h:event_Order_1.f a0_0 a0_1 l0_2 l0_3 a1_0 a1_1 l1_2 l1_3=some r) :
  Calls Try.prog 61 #[.agg #[.int .i64 a0_0,.int .i64 a0_1,.slice A0_2 l0_2.length c0_2,.slice A0_3 l0_3.length c0_3],.agg #[.int .i64 a1_0,.int .i64 a1_1,.slice A1_2 l1_2.length c1_2,.slice A1_3 l1_3.length c1_3]] w λe w'=>e = .returned (.int .i64 r)/\Below w.heap.size w w':=by
 have hu30:=Try.underlying30
 have hu25:=Try.underlying25
 have HR0_2:=Aside0.mk hr0_2
 have HC0_2:=Aside0.mk hc0_2
 clear hr0_2 hc0_2
 have HR0_3:=Aside0.mk hr0_3
 have HC0_3:=Aside0.mk hc0_3
 clear hr0_3 hc0_3
 have HR1_2:=Aside0.mk hr1_2
 have HC1_2:=Aside0.mk hc1_2
 clear hr1_2 hc1_2
 have HR1_3:=Aside0.mk hr1_3
 have HC1_3:=Aside0.mk hc1_3
 clear hr1_3 hc1_3
 have HB:=U (Below.refl w.heap.size w)
 have H:((clock_Sum.f l0_2).bind λt105=>((clock_Sum.f l1_2).bind λt106=>(if (wrap64 (t105 - t106))=0 then((dots_Less.f a0_0 a0_1 a1_0 a1_1).bind λt107=>(if t107=true then(some (-1)) else((dots_Less.f a1_0 a1_1 a0_0 a0_1).bind λt108=>(if t108=true then(some 1) else(some 0))))) else(some (wrap64 (t105 - t106))))))=some r:=h
 clear h
 replace H:=oB_ H
 obtain ⟨t105,A30,H⟩:=H
 replace H:((clock_Sum.f l1_2).bind λt106=>(if (wrap64 (t105 - t106))=0 then((dots_Less.f a0_0 a0_1 a1_0 a1_1).bind λt107=>(if t107=true then(some (-1)) else((dots_Less.f a1_0 a1_1 a0_0 a0_1).bind λt108=>(if t108=true then(some 1) else(some 0))))) else(some (wrap64 (t105 - t106)))))=some r:=H
 have A3:=Aside0.mk A30
 clear A30
 replace H:=oB_ H
 obtain ⟨t106,A40,H⟩:=H
 replace H:(if (wrap64 (t105 - t106))=0 then((dots_Less.f a0_0 a0_1 a1_0 a1_1).bind λt107=>(if t107=true then(some (-1)) else((dots_Less.f a1_0 a1_1 a0_0 a0_1).bind λt108=>(if t108=true then(some 1) else(some 0))))) else(some (wrap64 (t105 - t106))))=some r:=H
 have A4:=Aside0.mk A40
 clear A40
 by_cases c5:(wrap64 (t105 - t106))=0
 rotate_left
 ·rw [if_neg c5] at H
  have c5b0:((wrap64 (t105 - t106)) == 0)=false:=beq_eq_false_iff_ne.mpr c5
  have c5b1:((wrap64 (t105 - t106)) != 0)=true:=bne_iff_ne.mpr c5
  obtain rfl:=sI_ H
  go_enter Try.func61,Try.ntmps61
  try go_wp2_with (first|((with_reducible refine gate_dst (N:=2) rfl ?_);refine box_event ?hg (N:=2) ?hd (cs:=#[.int .i64 a0_0,.int .i64 a0_1,.slice A0_2 l0_2.length c0_2,.slice A0_3 l0_3.length c0_3]) (t:=30) ?hr ?_;(case hd=>rfl);(case hg=>rfl);(case hr=>exact z3_10);intro gb103 hg w43 hbox hb;have BK103:=U (hbox);have GW103:=U ((by rw [hg];exact(below_size z3_0):w.heap.size<=gb103));have GE103:=U ((by rw [hg];exact(below_size z3_0):w.heap.size<=gb103));replace HB:=U (below_step z3_0 hb);clear hb hbox hg)|((with_reducible refine gate_dst (N:=3) rfl ?_);refine box_event ?hg (N:=3) ?hd (cs:=#[.int .i64 a1_0,.int .i64 a1_1,.slice A1_2 l1_2.length c1_2,.slice A1_3 l1_3.length c1_3]) (t:=30) ?hr ?_;(case hd=>rfl);(case hg=>rfl);(case hr=>exact z3_10);intro gb104 hg w44 hbox hb;have BK104:=U (hbox);have GW104:=U ((by rw [hg];exact(below_size z3_4):w.heap.size<=gb104));have GE104:=U ((by rw [hg];exact(below_size z3_4):w.heap.size<=gb104));replace HB:=U (below_step z3_4 hb);have NB103_104:=U ((by rw [hg];exact Nat.ne_of_lt (blk_lt (g:=gb103) (o:=.cells #[.int .i64 a0_0,.int .i64 a0_1,.slice A0_2 l0_2.length c0_2,.slice A0_3 l0_3.length c0_3] 30 (0,0)) z3_2):gb103≠gb104));have NB104_103:=U ((by rw [hg];exact Nat.ne_of_gt (blk_lt (g:=gb103) (o:=.cells #[.int .i64 a0_0,.int .i64 a0_1,.slice A0_2 l0_2.length c0_2,.slice A0_3 l0_3.length c0_3] 30 (0,0)) z3_2):gb104≠gb103));replace BK103:=U (blk_below (g:=gb103) (o:=.cells #[.int .i64 a0_0,.int .i64 a0_1,.slice A0_2 l0_2.length c0_2,.slice A0_3 l0_3.length c0_3] 30 (0,0)) z3_2 hb);clear hb hbox hg))
  have n0_:=U (blk_drew BK103.out)
  have n1_:=U (blk_drew BK104.out)
  have n2_:=U (below_drew1 HB.out)
  clear BK103
  clear BK104
  clear HB
  have BK103:=n0_
  have BK104:=n1_
  have HB:=n2_
  clear n0_ n1_ n2_
  refine start_ (n:=8) (S:=λw'=>w'.cell? ⟨gb103,0,none⟩=some (.int .i64 a0_0)/\w'.cell? ⟨gb103,1,none⟩=some (.int .i64 a0_1)/\w'.cell? ⟨gb103,2,none⟩=some (.slice A0_2 l0_2.length c0_2)/\w'.cell? ⟨gb103,3,none⟩=some (.slice A0_3 l0_3.length c0_3)/\w'.cell? ⟨gb104,0,none⟩=some (.int .i64 a1_0)/\w'.cell? ⟨gb104,1,none⟩=some (.int .i64 a1_1)/\w'.cell? ⟨gb104,2,none⟩=some (.slice A1_2 l1_2.length c1_2)/\w'.cell? ⟨gb104,3,none⟩=some (.slice A1_3 l1_3.length c1_3)) (ds:=[]) #[J,J,J,J,J,J,J,J] z3_17 rfl rfl ⟨(blk_cell BK103.out 0).trans rfl,(blk_cell BK103.out 1).trans rfl,(blk_cell BK103.out 2).trans rfl,(blk_cell BK103.out 3).trans rfl,(blk_cell BK104.out 0).trans rfl,(blk_cell BK104.out 1).trans rfl,(blk_cell BK104.out 2).trans rfl,(blk_cell BK104.out 3).trans rfl⟩ (λhHeld=>?_);refine with_tabW event_Order_1.tab1 event_Order_1.bits1 (λHT_ HW_=>?_)
  generalize w44.drew=w45 at BK103 BK104 HB hHeld ⊢
  refine pure_ (i:=0) (N:=some 6) (v:=?_) (a':=?_) #[Y,J,J,J,J,J,J,J] rfl rfl (any_of HT_.out z3_17) (λ_ _ _ h=>h) (Or.inl ⟨(by rfl),?_⟩) ?_ ?_
  rotate_left
  ·intro w'
   go_simp
   with_reducible rfl
  rotate_left
  ·exact z3_3
  refine pure_ (i:=3) (N:=some 9) (v:=?_) (a':=?_) #[Y,J,J,Y,J,J,J,J] rfl rfl (any_of HT_.out z3_17) (λ_ _ _ h=>h) (Or.inl ⟨(by rfl),?_⟩) ?_ ?_
  rotate_left
  ·intro w'
   go_simp
   with_reducible rfl
  rotate_left
  ·exact z3_3
  refine take_ (i:=1) (N:=some 7) (v:=?_) (a':=?_) #[Y,Y,J,Y,J,J,J,J] rfl rfl (take_ofW HT_.out HW_.out z3_17) (λ_ _ _ h=>h) (Or.inl ⟨(by rfl),?_⟩) hHeld ?_ ?_
  rotate_left
  ·rintro w' ⟨s0,s1,s2,s3,s4,s5,s6,s7⟩
   go_simp
   with_reducible rfl
  rotate_left
  ·exact z3_3
  refine take_ (i:=4) (N:=some 10) (v:=?_) (a':=?_) #[Y,Y,J,Y,Y,J,J,J] rfl rfl (take_ofW HT_.out HW_.out z3_17) (λ_ _ _ h=>h) (Or.inl ⟨(by rfl),?_⟩) hHeld ?_ ?_
  rotate_left
  ·rintro w' ⟨s0,s1,s2,s3,s4,s5,s6,s7⟩
   go_simp
   with_reducible rfl
  rotate_left
  ·exact z3_3
  refine one_ (i:=2) (N:=some 8) #[Y,Y,Y,Y,Y,J,J,J] rfl rfl (one_of HT_.out z3_17) (by decide) (λK hK=>?_)
  refine goes_ Try.func62 z3_17 rfl #[.slice A0_2 l0_2.length c0_2] (by rfl) rfl rfl z3_5 ?_
  with_reducible refine(clock_Sum.calls _ _ l0_2 t105 _ ?side1 ?side2 A3.out).mono ?_
  (case side1=>exact z3_11)
  (case side2=>exact HC0_2.out)
  rintro e w46 ⟨rfl,hb⟩
  refine ⟨_,rfl,?_⟩
  have n0_:=U (blk_below (g:=gb103) (o:=.cells #[.int .i64 a0_0,.int .i64 a0_1,.slice A0_2 l0_2.length c0_2,.slice A0_3 l0_3.length c0_3] 30 (0,0)) z3_2 hb)
  have n1_:=U (blk_below (g:=gb104) (o:=.cells #[.int .i64 a1_0,.int .i64 a1_1,.slice A1_2 l1_2.length c1_2,.slice A1_3 l1_3.length c1_3] 30 (0,0)) z3_6 hb)
  have n2_:=U (below_step z3_1 hb)
  clear BK103
  clear BK104
  clear HB
  have BK103:=n0_
  have BK104:=n1_
  have HB:=n2_
  clear n0_ n1_ n2_
  (try clear hb)
  (try clear hb2)
  (try clear hk)
  (try clear hi)
  refine hK.out _ _ ⟨(blk_cell BK103.out 0).trans rfl,(blk_cell BK103.out 1).trans rfl,(blk_cell BK103.out 2).trans rfl,(blk_cell BK103.out 3).trans rfl,(blk_cell BK104.out 0).trans rfl,(blk_cell BK104.out 1).trans rfl,(blk_cell BK104.out 2).trans rfl,(blk_cell BK104.out 3).trans rfl⟩ (λhHeld=>?_)
  clear hK K
  refine norm_ (a':=?_) ?_ ?_
  rotate_left
  ·exact z3_15
  refine one_ (i:=5) (N:=some 11) #[Y,Y,Y,Y,Y,Y,J,J] rfl rfl (one_of HT_.out z3_17) (by decide) (λK hK=>?_)
  refine goes_ Try.func62 z3_17 rfl #[.slice A1_2 l1_2.length c1_2] (by rfl) rfl rfl z3_5 ?_
  with_reducible refine(clock_Sum.calls _ _ l1_2 t106 _ ?side1 ?side2 A4.out).mono ?_
  (case side1=>exact z3_12)
  (case side2=>exact HC1_2.out)
  rintro e w47 ⟨rfl,hb⟩
  refine ⟨_,rfl,?_⟩
  have n0_:=U (blk_below (g:=gb103) (o:=.cells #[.int .i64 a0_0,.int .i64 a0_1,.slice A0_2 l0_2.length c0_2,.slice A0_3 l0_3.length c0_3] 30 (0,0)) z3_2 hb)
  have n1_:=U (blk_below (g:=gb104) (o:=.cells #[.int .i64 a1_0,.int .i64 a1_1,.slice A1_2 l1_2.length c1_2,.slice A1_3 l1_3.length c1_3] 30 (0,0)) z3_6 hb)
  have n2_:=U (below_step z3_1 hb)
  clear BK103
  clear BK104
  clear HB
  have BK103:=n0_
  have BK104:=n1_
  have HB:=n2_
  clear n0_ n1_ n2_
  (try clear hb)
  (try clear hb2)
  (try clear hk)
  (try clear hi)
  refine hK.out _ _ ⟨(blk_cell BK103.out 0).trans rfl,(blk_cell BK103.out 1).trans rfl,(blk_cell BK103.out 2).trans rfl,(blk_cell BK103.out 3).trans rfl,(blk_cell BK104.out 0).trans rfl,(blk_cell BK104.out 1).trans rfl,(blk_cell BK104.out 2).trans rfl,(blk_cell BK104.out 3).trans rfl⟩ (λhHeld=>?_)
  clear hK K
  refine norm_ (a':=?_) ?_ ?_
  rotate_left
  ·exact z3_14
  refine pure_ (i:=6) (N:=some 12) (v:=?_) (a':=?_) #[Y,Y,Y,Y,Y,Y,Y,J] rfl rfl (any_of HT_.out z3_17) (λ_ _ _ h=>h) (Or.inl ⟨(by rfl),?_⟩) ?_ ?_
  rotate_left
  ·intro w'
   go_simp
   with_reducible rfl
  rotate_left
  ·exact z3_3
  refine pure_ (i:=7) (N:=some 5) (v:=?_) (a':=?_) #[Y,Y,Y,Y,Y,Y,Y,Y] rfl rfl (any_of HT_.out z3_17) (λ_ _ _ h=>h) (Or.inl ⟨(by rfl),?_⟩) ?_ ?_
  rotate_left
  ·intro w'
   go_simp
   with_reducible rfl
  rotate_left
  ·exact z3_3
  refine done_ (done_of HT_.out z3_17) ?_
  try go_wp2
  go_ret
  exact ⟨z3_9,z3_1⟩
 rw [if_pos c5] at H
 have c5b0:((wrap64 (t105 - t106)) == 0)=true:=beq_iff_eq.mpr c5
 have c5b1:((wrap64 (t105 - t106)) != 0)=false:=bne_eq_false_iff_eq.mpr c5
 clear c5
 replace H:=oB_ H
 obtain ⟨t107,A60,H⟩:=H
 replace H:(if t107=true then(some (-1)) else((dots_Less.f a1_0 a1_1 a0_0 a0_1).bind λt108=>(if t108=true then(some 1) else(some 0))))=some r:=H
 have A6:=Aside0.mk A60
 clear A60
 by_cases c7:t107=true
 ·subst c7
  have H1:(some (-1))=some r:=by rw [if_pos rfl] at H;exact H
  clear H
  have H:=H1
  clear H1
  obtain rfl:=sI_ H
  go_enter Try.func61,Try.ntmps61
  try go_wp2_with (first|((with_reducible refine gate_dst (N:=2) rfl ?_);refine box_event ?hg (N:=2) ?hd (cs:=#[.int .i64 a0_0,.int .i64 a0_1,.slice A0_2 l0_2.length c0_2,.slice A0_3 l0_3.length c0_3]) (t:=30) ?hr ?_;(case hd=>rfl);(case hg=>rfl);(case hr=>exact z3_10);intro gb103 hg w8 hbox hb;have BK103:=U (hbox);have GW103:=U ((by rw [hg];exact(below_size z3_0):w.heap.size<=gb103));have GE103:=U ((by rw [hg];exact(below_size z3_0):w.heap.size<=gb103));replace HB:=U (below_step z3_0 hb);clear hb hbox hg)|((with_reducible refine gate_dst (N:=3) rfl ?_);refine box_event ?hg (N:=3) ?hd (cs:=#[.int .i64 a1_0,.int .i64 a1_1,.slice A1_2 l1_2.length c1_2,.slice A1_3 l1_3.length c1_3]) (t:=30) ?hr ?_;(case hd=>rfl);(case hg=>rfl);(case hr=>exact z3_10);intro gb104 hg w9 hbox hb;have BK104:=U (hbox);have GW104:=U ((by rw [hg];exact(below_size z3_4):w.heap.size<=gb104));have GE104:=U ((by rw [hg];exact(below_size z3_4):w.heap.size<=gb104));replace HB:=U (below_step z3_4 hb);have NB103_104:=U ((by rw [hg];exact Nat.ne_of_lt (blk_lt (g:=gb103) (o:=.cells #[.int .i64 a0_0,.int .i64 a0_1,.slice A0_2 l0_2.length c0_2,.slice A0_3 l0_3.length c0_3] 30 (0,0)) z3_2):gb103≠gb104));have NB104_103:=U ((by rw [hg];exact Nat.ne_of_gt (blk_lt (g:=gb103) (o:=.cells #[.int .i64 a0_0,.int .i64 a0_1,.slice A0_2 l0_2.length c0_2,.slice A0_3 l0_3.length c0_3] 30 (0,0)) z3_2):gb104≠gb103));replace BK103:=U (blk_below (g:=gb103) (o:=.cells #[.int .i64 a0_0,.int .i64 a0_1,.slice A0_2 l0_2.length c0_2,.slice A0_3 l0_3.length c0_3] 30 (0,0)) z3_2 hb);clear hb hbox hg))
  have n0_:=U (blk_drew BK103.out)
  have n1_:=U (blk_drew BK104.out)
  have n2_:=U (below_drew1 HB.out)
  clear BK103
  clear BK104
  clear HB
  have BK103:=n0_
  have BK104:=n1_
  have HB:=n2_
  clear n0_ n1_ n2_
  refine start_ (n:=8) (S:=λw'=>w'.cell? ⟨gb103,0,none⟩=some (.int .i64 a0_0)/\w'.cell? ⟨gb103,1,none⟩=some (.int .i64 a0_1)/\w'.cell? ⟨gb103,2,none⟩=some (.slice A0_2 l0_2.length c0_2)/\w'.cell? ⟨gb103,3,none⟩=some (.slice A0_3 l0_3.length c0_3)/\w'.cell? ⟨gb104,0,none⟩=some (.int .i64 a1_0)/\w'.cell? ⟨gb104,1,none⟩=some (.int .i64 a1_1)/\w'.cell? ⟨gb104,2,none⟩=some (.slice A1_2 l1_2.length c1_2)/\w'.cell? ⟨gb104,3,none⟩=some (.slice A1_3 l1_3.length c1_3)) (ds:=[]) #[J,J,J,J,J,J,J,J] z3_17 rfl rfl ⟨(blk_cell BK103.out 0).trans rfl,(blk_cell BK103.out 1).trans rfl,(blk_cell BK103.out 2).trans rfl,(blk_cell BK103.out 3).trans rfl,(blk_cell BK104.out 0).trans rfl,(blk_cell BK104.out 1).trans rfl,(blk_cell BK104.out 2).trans rfl,(blk_cell BK104.out 3).trans rfl⟩ (λhHeld=>?_);refine with_tabW event_Order_1.tab1 event_Order_1.bits1 (λHT_ HW_=>?_)
  generalize w9.drew=w10 at BK103 BK104 HB hHeld ⊢
  refine pure_ (i:=0) (N:=some 6) (v:=?_) (a':=?_) #[Y,J,J,J,J,J,J,J] rfl rfl (any_of HT_.out z3_17) (λ_ _ _ h=>h) (Or.inl ⟨(by rfl),?_⟩) ?_ ?_
  rotate_left
  ·intro w'
   go_simp
   with_reducible rfl
  rotate_left
  ·exact z3_3
  refine pure_ (i:=3) (N:=some 9) (v:=?_) (a':=?_) #[Y,J,J,Y,J,J,J,J] rfl rfl (any_of HT_.out z3_17) (λ_ _ _ h=>h) (Or.inl ⟨(by rfl),?_⟩) ?_ ?_
  rotate_left
  ·intro w'
   go_simp
   with_reducible rfl
  rotate_left
  ·exact z3_3
  refine take_ (i:=1) (N:=some 7) (v:=?_) (a':=?_) #[Y,Y,J,Y,J,J,J,J] rfl rfl (take_ofW HT_.out HW_.out z3_17) (λ_ _ _ h=>h) (Or.inl ⟨(by rfl),?_⟩) hHeld ?_ ?_
  rotate_left
  ·rintro w' ⟨s0,s1,s2,s3,s4,s5,s6,s7⟩
   go_simp
   with_reducible rfl
  rotate_left
  ·exact z3_3
  refine take_ (i:=4) (N:=some 10) (v:=?_) (a':=?_) #[Y,Y,J,Y,Y,J,J,J] rfl rfl (take_ofW HT_.out HW_.out z3_17) (λ_ _ _ h=>h) (Or.inl ⟨(by rfl),?_⟩) hHeld ?_ ?_
  rotate_left
  ·rintro w' ⟨s0,s1,s2,s3,s4,s5,s6,s7⟩
   go_simp
   with_reducible rfl
  rotate_left
  ·exact z3_3
  refine one_ (i:=2) (N:=some 8) #[Y,Y,Y,Y,Y,J,J,J] rfl rfl (one_of HT_.out z3_17) (by decide) (λK hK=>?_)
  refine goes_ Try.func62 z3_17 rfl #[.slice A0_2 l0_2.length c0_2] (by rfl) rfl rfl z3_5 ?_
  with_reducible refine(clock_Sum.calls _ _ l0_2 t105 _ ?side1 ?side2 A3.out).mono ?_
  (case side1=>exact z3_11)
  (case side2=>exact HC0_2.out)
  rintro e w11 ⟨rfl,hb⟩
  refine ⟨_,rfl,?_⟩
  have n0_:=U (blk_below (g:=gb103) (o:=.cells #[.int .i64 a0_0,.int .i64 a0_1,.slice A0_2 l0_2.length c0_2,.slice A0_3 l0_3.length c0_3] 30 (0,0)) z3_2 hb)
  have n1_:=U (blk_below (g:=gb104) (o:=.cells #[.int .i64 a1_0,.int .i64 a1_1,.slice A1_2 l1_2.length c1_2,.slice A1_3 l1_3.length c1_3] 30 (0,0)) z3_6 hb)
  have n2_:=U (below_step z3_1 hb)
  clear BK103
  clear BK104
  clear HB
  have BK103:=n0_
  have BK104:=n1_
  have HB:=n2_
  clear n0_ n1_ n2_
  (try clear hb)
  (try clear hb2)
  (try clear hk)
  (try clear hi)
  refine hK.out _ _ ⟨(blk_cell BK103.out 0).trans rfl,(blk_cell BK103.out 1).trans rfl,(blk_cell BK103.out 2).trans rfl,(blk_cell BK103.out 3).trans rfl,(blk_cell BK104.out 0).trans rfl,(blk_cell BK104.out 1).trans rfl,(blk_cell BK104.out 2).trans rfl,(blk_cell BK104.out 3).trans rfl⟩ (λhHeld=>?_)
  clear hK K
  refine norm_ (a':=?_) ?_ ?_
  rotate_left
  ·exact z3_15
  refine one_ (i:=5) (N:=some 11) #[Y,Y,Y,Y,Y,Y,J,J] rfl rfl (one_of HT_.out z3_17) (by decide) (λK hK=>?_)
  refine goes_ Try.func62 z3_17 rfl #[.slice A1_2 l1_2.length c1_2] (by rfl) rfl rfl z3_5 ?_
  with_reducible refine(clock_Sum.calls _ _ l1_2 t106 _ ?side1 ?side2 A4.out).mono ?_
  (case side1=>exact z3_12)
  (case side2=>exact HC1_2.out)
  rintro e w12 ⟨rfl,hb⟩
  refine ⟨_,rfl,?_⟩
  have n0_:=U (blk_below (g:=gb103) (o:=.cells #[.int .i64 a0_0,.int .i64 a0_1,.slice A0_2 l0_2.length c0_2,.slice A0_3 l0_3.length c0_3] 30 (0,0)) z3_2 hb)
  have n1_:=U (blk_below (g:=gb104) (o:=.cells #[.int .i64 a1_0,.int .i64 a1_1,.slice A1_2 l1_2.length c1_2,.slice A1_3 l1_3.length c1_3] 30 (0,0)) z3_6 hb)
  have n2_:=U (below_step z3_1 hb)
  clear BK103
  clear BK104
  clear HB
  have BK103:=n0_
  have BK104:=n1_
  have HB:=n2_
  clear n0_ n1_ n2_
  (try clear hb)
  (try clear hb2)
  (try clear hk)
  (try clear hi)
  refine hK.out _ _ ⟨(blk_cell BK103.out 0).trans rfl,(blk_cell BK103.out 1).trans rfl,(blk_cell BK103.out 2).trans rfl,(blk_cell BK103.out 3).trans rfl,(blk_cell BK104.out 0).trans rfl,(blk_cell BK104.out 1).trans rfl,(blk_cell BK104.out 2).trans rfl,(blk_cell BK104.out 3).trans rfl⟩ (λhHeld=>?_)
  clear hK K
  refine norm_ (a':=?_) ?_ ?_
  rotate_left
  ·exact z3_14
  refine pure_ (i:=6) (N:=some 12) (v:=?_) (a':=?_) #[Y,Y,Y,Y,Y,Y,Y,J] rfl rfl (any_of HT_.out z3_17) (λ_ _ _ h=>h) (Or.inl ⟨(by rfl),?_⟩) ?_ ?_
  rotate_left
  ·intro w'
   go_simp
   with_reducible rfl
  rotate_left
  ·exact z3_3
  refine pure_ (i:=7) (N:=some 5) (v:=?_) (a':=?_) #[Y,Y,Y,Y,Y,Y,Y,Y] rfl rfl (any_of HT_.out z3_17) (λ_ _ _ h=>h) (Or.inl ⟨(by rfl),?_⟩) ?_ ?_
  rotate_left
  ·intro w'
   go_simp
   with_reducible rfl
  rotate_left
  ·exact z3_3
  refine done_ (done_of HT_.out z3_17) ?_
  have hnb13:=NB103_104.out
  have hnc13:=NB104_103.out
  obtain ⟨hcz14_0,hcz14_1,hcz14_2,hcz14_3,hfz14_0,hfz14_1,hfz14_2,hfz14_3⟩:=cz4_ BK103.out;obtain ⟨hcz15_0,hcz15_1,hcz15_2,hcz15_3,hfz15_0,hfz15_1,hfz15_2,hfz15_3⟩:=cz4_ BK104.out
  try go_wp2_with (first|((with_reducible refine gate_callee (f:=63) rfl ?_);refine goesL_ (some 21) rfl rfl Try.func63 z3_17 rfl #[.agg #[.int .i64 a0_0,.int .i64 a0_1],.agg #[.int .i64 a1_0,.int .i64 a1_1]] rfl z3_5 ?_;(with_reducible refine(dots_Less.calls a0_0 a0_1 a1_0 a1_1 true _ A6.out).mono ?_);rintro e w16 ⟨rfl,hb⟩;refine ⟨_,rfl,?_⟩;replace BK103:=U (blk_below (g:=gb103) (o:=.cells #[.int .i64 a0_0,.int .i64 a0_1,.slice A0_2 l0_2.length c0_2,.slice A0_3 l0_3.length c0_3] 30 (0,0)) z3_2 hb);replace BK104:=U (blk_below (g:=gb104) (o:=.cells #[.int .i64 a1_0,.int .i64 a1_1,.slice A1_2 l1_2.length c1_2,.slice A1_3 l1_3.length c1_3] 30 (0,0)) z3_6 hb);replace HB:=U (below_step z3_1 hb);(try clear hb);(try clear hb2);(try clear hk);(try clear hi)))
  go_ret
  exact ⟨z3_9,z3_1⟩
 replace c7:=Bool.eq_false_iff.mpr c7
 subst c7
 have H1:((dots_Less.f a1_0 a1_1 a0_0 a0_1).bind λt108=>(if t108=true then(some 1) else(some 0)))=some r:=by rw [if_neg (show ¬ (false=true) by decide)] at H;exact H
 clear H
 have H:=H1
 clear H1
 replace H:=oB_ H
 obtain ⟨t108,A170,H⟩:=H
 replace H:(if t108=true then(some 1) else(some 0))=some r:=H
 have A17:=Aside0.mk A170
 clear A170
 by_cases c18:t108=true
 ·subst c18
  have H1:(some 1)=some r:=by rw [if_pos rfl] at H;exact H
  clear H
  have H:=H1
  clear H1
  obtain rfl:=sI_ H
  go_enter Try.func61,Try.ntmps61
  try go_wp2_with (first|((with_reducible refine gate_dst (N:=2) rfl ?_);refine box_event ?hg (N:=2) ?hd (cs:=#[.int .i64 a0_0,.int .i64 a0_1,.slice A0_2 l0_2.length c0_2,.slice A0_3 l0_3.length c0_3]) (t:=30) ?hr ?_;(case hd=>rfl);(case hg=>rfl);(case hr=>exact z3_10);intro gb103 hg w19 hbox hb;have BK103:=U (hbox);have GW103:=U ((by rw [hg];exact(below_size z3_0):w.heap.size<=gb103));have GE103:=U ((by rw [hg];exact(below_size z3_0):w.heap.size<=gb103));replace HB:=U (below_step z3_0 hb);clear hb hbox hg)|((with_reducible refine gate_dst (N:=3) rfl ?_);refine box_event ?hg (N:=3) ?hd (cs:=#[.int .i64 a1_0,.int .i64 a1_1,.slice A1_2 l1_2.length c1_2,.slice A1_3 l1_3.length c1_3]) (t:=30) ?hr ?_;(case hd=>rfl);(case hg=>rfl);(case hr=>exact z3_10);intro gb104 hg w20 hbox hb;have BK104:=U (hbox);have GW104:=U ((by rw [hg];exact(below_size z3_4):w.heap.size<=gb104));have GE104:=U ((by rw [hg];exact(below_size z3_4):w.heap.size<=gb104));replace HB:=U (below_step z3_4 hb);have NB103_104:=U ((by rw [hg];exact Nat.ne_of_lt (blk_lt (g:=gb103) (o:=.cells #[.int .i64 a0_0,.int .i64 a0_1,.slice A0_2 l0_2.length c0_2,.slice A0_3 l0_3.length c0_3] 30 (0,0)) z3_2):gb103≠gb104));have NB104_103:=U ((by rw [hg];exact Nat.ne_of_gt (blk_lt (g:=gb103) (o:=.cells #[.int .i64 a0_0,.int .i64 a0_1,.slice A0_2 l0_2.length c0_2,.slice A0_3 l0_3.length c0_3] 30 (0,0)) z3_2):gb104≠gb103));replace BK103:=U (blk_below (g:=gb103) (o:=.cells #[.int .i64 a0_0,.int .i64 a0_1,.slice A0_2 l0_2.length c0_2,.slice A0_3 l0_3.length c0_3] 30 (0,0)) z3_2 hb);clear hb hbox hg))
  have n0_:=U (blk_drew BK103.out)
  have n1_:=U (blk_drew BK104.out)
  have n2_:=U (below_drew1 HB.out)
  clear BK103
  clear BK104
  clear HB
  have BK103:=n0_
  have BK104:=n1_
  have HB:=n2_
  clear n0_ n1_ n2_
  refine start_ (n:=8) (S:=λw'=>w'.cell? ⟨gb103,0,none⟩=some (.int .i64 a0_0)/\w'.cell? ⟨gb103,1,none⟩=some (.int .i64 a0_1)/\w'.cell? ⟨gb103,2,none⟩=some (.slice A0_2 l0_2.length c0_2)/\w'.cell? ⟨gb103,3,none⟩=some (.slice A0_3 l0_3.length c0_3)/\w'.cell? ⟨gb104,0,none⟩=some (.int .i64 a1_0)/\w'.cell? ⟨gb104,1,none⟩=some (.int .i64 a1_1)/\w'.cell? ⟨gb104,2,none⟩=some (.slice A1_2 l1_2.length c1_2)/\w'.cell? ⟨gb104,3,none⟩=some (.slice A1_3 l1_3.length c1_3)) (ds:=[]) #[J,J,J,J,J,J,J,J] z3_17 rfl rfl ⟨(blk_cell BK103.out 0).trans rfl,(blk_cell BK103.out 1).trans rfl,(blk_cell BK103.out 2).trans rfl,(blk_cell BK103.out 3).trans rfl,(blk_cell BK104.out 0).trans rfl,(blk_cell BK104.out 1).trans rfl,(blk_cell BK104.out 2).trans rfl,(blk_cell BK104.out 3).trans rfl⟩ (λhHeld=>?_);refine with_tabW event_Order_1.tab1 event_Order_1.bits1 (λHT_ HW_=>?_)
  generalize w20.drew=w21 at BK103 BK104 HB hHeld ⊢
  refine pure_ (i:=0) (N:=some 6) (v:=?_) (a':=?_) #[Y,J,J,J,J,J,J,J] rfl rfl (any_of HT_.out z3_17) (λ_ _ _ h=>h) (Or.inl ⟨(by rfl),?_⟩) ?_ ?_
  rotate_left
  ·intro w'
   go_simp
   with_reducible rfl
  rotate_left
  ·exact z3_3
  refine pure_ (i:=3) (N:=some 9) (v:=?_) (a':=?_) #[Y,J,J,Y,J,J,J,J] rfl rfl (any_of HT_.out z3_17) (λ_ _ _ h=>h) (Or.inl ⟨(by rfl),?_⟩) ?_ ?_
  rotate_left
  ·intro w'
   go_simp
   with_reducible rfl
  rotate_left
  ·exact z3_3
  refine take_ (i:=1) (N:=some 7) (v:=?_) (a':=?_) #[Y,Y,J,Y,J,J,J,J] rfl rfl (take_ofW HT_.out HW_.out z3_17) (λ_ _ _ h=>h) (Or.inl ⟨(by rfl),?_⟩) hHeld ?_ ?_
  rotate_left
  ·rintro w' ⟨s0,s1,s2,s3,s4,s5,s6,s7⟩
   go_simp
   with_reducible rfl
  rotate_left
  ·exact z3_3
  refine take_ (i:=4) (N:=some 10) (v:=?_) (a':=?_) #[Y,Y,J,Y,Y,J,J,J] rfl rfl (take_ofW HT_.out HW_.out z3_17) (λ_ _ _ h=>h) (Or.inl ⟨(by rfl),?_⟩) hHeld ?_ ?_
  rotate_left
  ·rintro w' ⟨s0,s1,s2,s3,s4,s5,s6,s7⟩
   go_simp
   with_reducible rfl
  rotate_left
  ·exact z3_3
  refine one_ (i:=2) (N:=some 8) #[Y,Y,Y,Y,Y,J,J,J] rfl rfl (one_of HT_.out z3_17) (by decide) (λK hK=>?_)
  refine goes_ Try.func62 z3_17 rfl #[.slice A0_2 l0_2.length c0_2] (by rfl) rfl rfl z3_5 ?_
  with_reducible refine(clock_Sum.calls _ _ l0_2 t105 _ ?side1 ?side2 A3.out).mono ?_
  (case side1=>exact z3_11)
  (case side2=>exact HC0_2.out)
  rintro e w22 ⟨rfl,hb⟩
  refine ⟨_,rfl,?_⟩
  have n0_:=U (blk_below (g:=gb103) (o:=.cells #[.int .i64 a0_0,.int .i64 a0_1,.slice A0_2 l0_2.length c0_2,.slice A0_3 l0_3.length c0_3] 30 (0,0)) z3_2 hb)
  have n1_:=U (blk_below (g:=gb104) (o:=.cells #[.int .i64 a1_0,.int .i64 a1_1,.slice A1_2 l1_2.length c1_2,.slice A1_3 l1_3.length c1_3] 30 (0,0)) z3_6 hb)
  have n2_:=U (below_step z3_1 hb)
  clear BK103
  clear BK104
  clear HB
  have BK103:=n0_
  have BK104:=n1_
  have HB:=n2_
  clear n0_ n1_ n2_
  (try clear hb)
  (try clear hb2)
  (try clear hk)
  (try clear hi)
  refine hK.out _ _ ⟨(blk_cell BK103.out 0).trans rfl,(blk_cell BK103.out 1).trans rfl,(blk_cell BK103.out 2).trans rfl,(blk_cell BK103.out 3).trans rfl,(blk_cell BK104.out 0).trans rfl,(blk_cell BK104.out 1).trans rfl,(blk_cell BK104.out 2).trans rfl,(blk_cell BK104.out 3).trans rfl⟩ (λhHeld=>?_)
  clear hK K
  refine norm_ (a':=?_) ?_ ?_
  rotate_left
  ·exact z3_15
  refine one_ (i:=5) (N:=some 11) #[Y,Y,Y,Y,Y,Y,J,J] rfl rfl (one_of HT_.out z3_17) (by decide) (λK hK=>?_)
  refine goes_ Try.func62 z3_17 rfl #[.slice A1_2 l1_2.length c1_2] (by rfl) rfl rfl z3_5 ?_
  with_reducible refine(clock_Sum.calls _ _ l1_2 t106 _ ?side1 ?side2 A4.out).mono ?_
  (case side1=>exact z3_12)
  (case side2=>exact HC1_2.out)
  rintro e w23 ⟨rfl,hb⟩
  refine ⟨_,rfl,?_⟩
  have n0_:=U (blk_below (g:=gb103) (o:=.cells #[.int .i64 a0_0,.int .i64 a0_1,.slice A0_2 l0_2.length c0_2,.slice A0_3 l0_3.length c0_3] 30 (0,0)) z3_2 hb)
  have n1_:=U (blk_below (g:=gb104) (o:=.cells #[.int .i64 a1_0,.int .i64 a1_1,.slice A1_2 l1_2.length c1_2,.slice A1_3 l1_3.length c1_3] 30 (0,0)) z3_6 hb)
  have n2_:=U (below_step z3_1 hb)
  clear BK103
  clear BK104
  clear HB
  have BK103:=n0_
  have BK104:=n1_
  have HB:=n2_
  clear n0_ n1_ n2_
  (try clear hb)
  (try clear hb2)
  (try clear hk)
  (try clear hi)
  refine hK.out _ _ ⟨(blk_cell BK103.out 0).trans rfl,(blk_cell BK103.out 1).trans rfl,(blk_cell BK103.out 2).trans rfl,(blk_cell BK103.out 3).trans rfl,(blk_cell BK104.out 0).trans rfl,(blk_cell BK104.out 1).trans rfl,(blk_cell BK104.out 2).trans rfl,(blk_cell BK104.out 3).trans rfl⟩ (λhHeld=>?_)
  clear hK K
  refine norm_ (a':=?_) ?_ ?_
  rotate_left
  ·exact z3_14
  refine pure_ (i:=6) (N:=some 12) (v:=?_) (a':=?_) #[Y,Y,Y,Y,Y,Y,Y,J] rfl rfl (any_of HT_.out z3_17) (λ_ _ _ h=>h) (Or.inl ⟨(by rfl),?_⟩) ?_ ?_
  rotate_left
  ·intro w'
   go_simp
   with_reducible rfl
  rotate_left
  ·exact z3_3
  refine pure_ (i:=7) (N:=some 5) (v:=?_) (a':=?_) #[Y,Y,Y,Y,Y,Y,Y,Y] rfl rfl (any_of HT_.out z3_17) (λ_ _ _ h=>h) (Or.inl ⟨(by rfl),?_⟩) ?_ ?_
  rotate_left
  ·intro w'
   go_simp
   with_reducible rfl
  rotate_left
  ·exact z3_3
  refine done_ (done_of HT_.out z3_17) ?_
  have hnb24:=NB103_104.out
  have hnc24:=NB104_103.out
  obtain ⟨hcz25_0,hcz25_1,hcz25_2,hcz25_3,hfz25_0,hfz25_1,hfz25_2,hfz25_3⟩:=cz4_ BK103.out;obtain ⟨hcz26_0,hcz26_1,hcz26_2,hcz26_3,hfz26_0,hfz26_1,hfz26_2,hfz26_3⟩:=cz4_ BK104.out
  try go_wp2_with (first|((with_reducible refine gate_callee (f:=63) rfl ?_);refine goesL_ (some 21) rfl rfl Try.func63 z3_17 rfl #[.agg #[.int .i64 a0_0,.int .i64 a0_1],.agg #[.int .i64 a1_0,.int .i64 a1_1]] rfl z3_5 ?_;(with_reducible refine(dots_Less.calls a0_0 a0_1 a1_0 a1_1 false _ A6.out).mono ?_);rintro e w27 ⟨rfl,hb⟩;refine ⟨_,rfl,?_⟩;replace BK103:=U (blk_below (g:=gb103) (o:=.cells #[.int .i64 a0_0,.int .i64 a0_1,.slice A0_2 l0_2.length c0_2,.slice A0_3 l0_3.length c0_3] 30 (0,0)) z3_2 hb);replace BK104:=U (blk_below (g:=gb104) (o:=.cells #[.int .i64 a1_0,.int .i64 a1_1,.slice A1_2 l1_2.length c1_2,.slice A1_3 l1_3.length c1_3] 30 (0,0)) z3_6 hb);replace HB:=U (below_step z3_1 hb);(try clear hb);(try clear hb2);(try clear hk);(try clear hi);obtain ⟨hcz28_0,hcz28_1,hcz28_2,hcz28_3,hfz28_0,hfz28_1,hfz28_2,hfz28_3⟩:=cz4_ BK104.out;obtain ⟨hcz29_0,hcz29_1,hcz29_2,hcz29_3,hfz29_0,hfz29_1,hfz29_2,hfz29_3⟩:=cz4_ BK103.out)|((with_reducible refine gate_callee (f:=63) rfl ?_);refine goesL_ (some 27) rfl rfl Try.func63 z3_17 rfl #[.agg #[.int .i64 a1_0,.int .i64 a1_1],.agg #[.int .i64 a0_0,.int .i64 a0_1]] rfl z3_5 ?_;(with_reducible refine(dots_Less.calls a1_0 a1_1 a0_0 a0_1 true _ A17.out).mono ?_);rintro e w30 ⟨rfl,hb⟩;refine ⟨_,rfl,?_⟩;replace BK103:=U (blk_below (g:=gb103) (o:=.cells #[.int .i64 a0_0,.int .i64 a0_1,.slice A0_2 l0_2.length c0_2,.slice A0_3 l0_3.length c0_3] 30 (0,0)) z3_2 hb);replace BK104:=U (blk_below (g:=gb104) (o:=.cells #[.int .i64 a1_0,.int .i64 a1_1,.slice A1_2 l1_2.length c1_2,.slice A1_3 l1_3.length c1_3] 30 (0,0)) z3_6 hb);replace HB:=U (below_step z3_1 hb);(try clear hb);(try clear hb2);(try clear hk);(try clear hi)))
  go_ret
  exact ⟨z3_9,z3_1⟩
 replace c18:=Bool.eq_false_iff.mpr c18
 subst c18
 have H1:(some 0)=some r:=by rw [if_neg (show ¬ (false=true) by decide)] at H;exact H
 clear H
 have H:=H1
 clear H1
 obtain rfl:=sI_ H
 go_enter Try.func61,Try.ntmps61
 try go_wp2_with (first|((with_reducible refine gate_dst (N:=2) rfl ?_);refine box_event ?hg (N:=2) ?hd (cs:=#[.int .i64 a0_0,.int .i64 a0_1,.slice A0_2 l0_2.length c0_2,.slice A0_3 l0_3.length c0_3]) (t:=30) ?hr ?_;(case hd=>rfl);(case hg=>rfl);(case hr=>exact z3_10);intro gb103 hg w31 hbox hb;have BK103:=U (hbox);have GW103:=U ((by rw [hg];exact(below_size z3_0):w.heap.size<=gb103));have GE103:=U ((by rw [hg];exact(below_size z3_0):w.heap.size<=gb103));replace HB:=U (below_step z3_0 hb);clear hb hbox hg)|((with_reducible refine gate_dst (N:=3) rfl ?_);refine box_event ?hg (N:=3) ?hd (cs:=#[.int .i64 a1_0,.int .i64 a1_1,.slice A1_2 l1_2.length c1_2,.slice A1_3 l1_3.length c1_3]) (t:=30) ?hr ?_;(case hd=>rfl);(case hg=>rfl);(case hr=>exact z3_10);intro gb104 hg w32 hbox hb;have BK104:=U (hbox);have GW104:=U ((by rw [hg];exact(below_size z3_4):w.heap.size<=gb104));have GE104:=U ((by rw [hg];exact(below_size z3_4):w.heap.size<=gb104));replace HB:=U (below_step z3_4 hb);have NB103_104:=U ((by rw [hg];exact Nat.ne_of_lt (blk_lt (g:=gb103) (o:=.cells #[.int .i64 a0_0,.int .i64 a0_1,.slice A0_2 l0_2.length c0_2,.slice A0_3 l0_3.length c0_3] 30 (0,0)) z3_2):gb103≠gb104));have NB104_103:=U ((by rw [hg];exact Nat.ne_of_gt (blk_lt (g:=gb103) (o:=.cells #[.int .i64 a0_0,.int .i64 a0_1,.slice A0_2 l0_2.length c0_2,.slice A0_3 l0_3.length c0_3] 30 (0,0)) z3_2):gb104≠gb103));replace BK103:=U (blk_below (g:=gb103) (o:=.cells #[.int .i64 a0_0,.int .i64 a0_1,.slice A0_2 l0_2.length c0_2,.slice A0_3 l0_3.length c0_3] 30 (0,0)) z3_2 hb);clear hb hbox hg))
 have n0_:=U (blk_drew BK103.out)
 have n1_:=U (blk_drew BK104.out)
 have n2_:=U (below_drew1 HB.out)
 clear BK103
 clear BK104
 clear HB
 have BK103:=n0_
 have BK104:=n1_
 have HB:=n2_
 clear n0_ n1_ n2_
 refine start_ (n:=8) (S:=λw'=>w'.cell? ⟨gb103,0,none⟩=some (.int .i64 a0_0)/\w'.cell? ⟨gb103,1,none⟩=some (.int .i64 a0_1)/\w'.cell? ⟨gb103,2,none⟩=some (.slice A0_2 l0_2.length c0_2)/\w'.cell? ⟨gb103,3,none⟩=some (.slice A0_3 l0_3.length c0_3)/\w'.cell? ⟨gb104,0,none⟩=some (.int .i64 a1_0)/\w'.cell? ⟨gb104,1,none⟩=some (.int .i64 a1_1)/\w'.cell? ⟨gb104,2,none⟩=some (.slice A1_2 l1_2.length c1_2)/\w'.cell? ⟨gb104,3,none⟩=some (.slice A1_3 l1_3.length c1_3)) (ds:=[]) #[J,J,J,J,J,J,J,J] z3_17 rfl rfl ⟨(blk_cell BK103.out 0).trans rfl,(blk_cell BK103.out 1).trans rfl,(blk_cell BK103.out 2).trans rfl,(blk_cell BK103.out 3).trans rfl,(blk_cell BK104.out 0).trans rfl,(blk_cell BK104.out 1).trans rfl,(blk_cell BK104.out 2).trans rfl,(blk_cell BK104.out 3).trans rfl⟩ (λhHeld=>?_);refine with_tabW event_Order_1.tab1 event_Order_1.bits1 (λHT_ HW_=>?_)
 generalize w32.drew=w33 at BK103 BK104 HB hHeld ⊢
 refine pure_ (i:=0) (N:=some 6) (v:=?_) (a':=?_) #[Y,J,J,J,J,J,J,J] rfl rfl (any_of HT_.out z3_17) (λ_ _ _ h=>h) (Or.inl ⟨(by rfl),?_⟩) ?_ ?_
 rotate_left
 ·intro w'
  go_simp
  with_reducible rfl
 rotate_left
 ·exact z3_3
 refine pure_ (i:=3) (N:=some 9) (v:=?_) (a':=?_) #[Y,J,J,Y,J,J,J,J] rfl rfl (any_of HT_.out z3_17) (λ_ _ _ h=>h) (Or.inl ⟨(by rfl),?_⟩) ?_ ?_
 rotate_left
 ·intro w'
  go_simp
  with_reducible rfl
 rotate_left
 ·exact z3_3
 refine take_ (i:=1) (N:=some 7) (v:=?_) (a':=?_) #[Y,Y,J,Y,J,J,J,J] rfl rfl (take_ofW HT_.out HW_.out z3_17) (λ_ _ _ h=>h) (Or.inl ⟨(by rfl),?_⟩) hHeld ?_ ?_
 rotate_left
 ·rintro w' ⟨s0,s1,s2,s3,s4,s5,s6,s7⟩
  go_simp
  with_reducible rfl
 rotate_left
 ·exact z3_3
 refine take_ (i:=4) (N:=some 10) (v:=?_) (a':=?_) #[Y,Y,J,Y,Y,J,J,J] rfl rfl (take_ofW HT_.out HW_.out z3_17) (λ_ _ _ h=>h) (Or.inl ⟨(by rfl),?_⟩) hHeld ?_ ?_
 rotate_left
 ·rintro w' ⟨s0,s1,s2,s3,s4,s5,s6,s7⟩
  go_simp
  with_reducible rfl
 rotate_left
 ·exact z3_3
 refine one_ (i:=2) (N:=some 8) #[Y,Y,Y,Y,Y,J,J,J] rfl rfl (one_of HT_.out z3_17) (by decide) (λK hK=>?_)
 refine goes_ Try.func62 z3_17 rfl #[.slice A0_2 l0_2.length c0_2] (by rfl) rfl rfl z3_5 ?_
 with_reducible refine(clock_Sum.calls _ _ l0_2 t105 _ ?side1 ?side2 A3.out).mono ?_
 (case side1=>exact z3_11)
 (case side2=>exact HC0_2.out)
 rintro e w34 ⟨rfl,hb⟩
 refine ⟨_,rfl,?_⟩
 have n0_:=U (blk_below (g:=gb103) (o:=.cells #[.int .i64 a0_0,.int .i64 a0_1,.slice A0_2 l0_2.length c0_2,.slice A0_3 l0_3.length c0_3] 30 (0,0)) z3_2 hb)
 have n1_:=U (blk_below (g:=gb104) (o:=.cells #[.int .i64 a1_0,.int .i64 a1_1,.slice A1_2 l1_2.length c1_2,.slice A1_3 l1_3.length c1_3] 30 (0,0)) z3_6 hb)
 have n2_:=U (below_step z3_1 hb)
 clear BK103
 clear BK104
 clear HB
 have BK103:=n0_
 have BK104:=n1_
 have HB:=n2_
 clear n0_ n1_ n2_
 (try clear hb)
 (try clear hb2)
 (try clear hk)
 (try clear hi)
 refine hK.out _ _ ⟨(blk_cell BK103.out 0).trans rfl,(blk_cell BK103.out 1).trans rfl,(blk_cell BK103.out 2).trans rfl,(blk_cell BK103.out 3).trans rfl,(blk_cell BK104.out 0).trans rfl,(blk_cell BK104.out 1).trans rfl,(blk_cell BK104.out 2).trans rfl,(blk_cell BK104.out 3).trans rfl⟩ (λhHeld=>?_)
 clear hK K
 refine norm_ (a':=?_) ?_ ?_
 rotate_left
 ·exact z3_15
 refine one_ (i:=5) (N:=some 11) #[Y,Y,Y,Y,Y,Y,J,J] rfl rfl (one_of HT_.out z3_17) (by decide) (λK hK=>?_)
 refine goes_ Try.func62 z3_17 rfl #[.slice A1_2 l1_2.length c1_2] (by rfl) rfl rfl z3_5 ?_
 with_reducible refine(clock_Sum.calls _ _ l1_2 t106 _ ?side1 ?side2 A4.out).mono ?_
 (case side1=>exact z3_12)
 (case side2=>exact HC1_2.out)
 rintro e w35 ⟨rfl,hb⟩
 refine ⟨_,rfl,?_⟩
 have n0_:=U (blk_below (g:=gb103) (o:=.cells #[.int .i64 a0_0,.int .i64 a0_1,.slice A0_2 l0_2.length c0_2,.slice A0_3 l0_3.length c0_3] 30 (0,0)) z3_2 hb)
 have n1_:=U (blk_below (g:=gb104) (o:=.cells #[.int .i64 a1_0,.int .i64 a1_1,.slice A1_2 l1_2.length c1_2,.slice A1_3 l1_3.length c1_3] 30 (0,0)) z3_6 hb)
 have n2_:=U (below_step z3_1 hb)
 clear BK103
 clear BK104
 clear HB
 have BK103:=n0_
 have BK104:=n1_
 have HB:=n2_
 clear n0_ n1_ n2_
 (try clear hb)
 (try clear hb2)
 (try clear hk)
 (try clear hi)
 refine hK.out _ _ ⟨(blk_cell BK103.out 0).trans rfl,(blk_cell BK103.out 1).trans rfl,(blk_cell BK103.out 2).trans rfl,(blk_cell BK103.out 3).trans rfl,(blk_cell BK104.out 0).trans rfl,(blk_cell BK104.out 1).trans rfl,(blk_cell BK104.out 2).trans rfl,(blk_cell BK104.out 3).trans rfl⟩ (λhHeld=>?_)
 clear hK K
 refine norm_ (a':=?_) ?_ ?_
 rotate_left
 ·exact z3_14
 refine pure_ (i:=6) (N:=some 12) (v:=?_) (a':=?_) #[Y,Y,Y,Y,Y,Y,Y,J] rfl rfl (any_of HT_.out z3_17) (λ_ _ _ h=>h) (Or.inl ⟨(by rfl),?_⟩) ?_ ?_
 rotate_left
 ·intro w'
  go_simp
  with_reducible rfl
 rotate_left
 ·exact z3_3
 refine pure_ (i:=7) (N:=some 5) (v:=?_) (a':=?_) #[Y,Y,Y,Y,Y,Y,Y,Y] rfl rfl (any_of HT_.out z3_17) (λ_ _ _ h=>h) (Or.inl ⟨(by rfl),?_⟩) ?_ ?_
 rotate_left
 ·intro w'
  go_simp
  with_reducible rfl
 rotate_left
 ·exact z3_3
 refine done_ (done_of HT_.out z3_17) ?_
 have hnb36:=NB103_104.out
 have hnc36:=NB104_103.out
 obtain ⟨hcz37_0,hcz37_1,hcz37_2,hcz37_3,hfz37_0,hfz37_1,hfz37_2,hfz37_3⟩:=cz4_ BK103.out;obtain ⟨hcz38_0,hcz38_1,hcz38_2,hcz38_3,hfz38_0,hfz38_1,hfz38_2,hfz38_3⟩:=cz4_ BK104.out
 try go_wp2_with (first|((with_reducible refine gate_callee (f:=63) rfl ?_);refine goesL_ (some 21) rfl rfl Try.func63 z3_17 rfl #[.agg #[.int .i64 a0_0,.int .i64 a0_1],.agg #[.int .i64 a1_0,.int .i64 a1_1]] rfl z3_5 ?_;(with_reducible refine(dots_Less.calls a0_0 a0_1 a1_0 a1_1 false _ A6.out).mono ?_);rintro e w39 ⟨rfl,hb⟩;refine ⟨_,rfl,?_⟩;replace BK103:=U (blk_below (g:=gb103) (o:=.cells #[.int .i64 a0_0,.int .i64 a0_1,.slice A0_2 l0_2.length c0_2,.slice A0_3 l0_3.length c0_3] 30 (0,0)) z3_2 hb);replace BK104:=U (blk_below (g:=gb104) (o:=.cells #[.int .i64 a1_0,.int .i64 a1_1,.slice A1_2 l1_2.length c1_2,.slice A1_3 l1_3.length c1_3] 30 (0,0)) z3_6 hb);replace HB:=U (below_step z3_1 hb);(try clear hb);(try clear hb2);(try clear hk);(try clear hi);obtain ⟨hcz40_0,hcz40_1,hcz40_2,hcz40_3,hfz40_0,hfz40_1,hfz40_2,hfz40_3⟩:=cz4_ BK104.out;obtain ⟨hcz41_0,hcz41_1,hcz41_2,hcz41_3,hfz41_0,hfz41_1,hfz41_2,hfz41_3⟩:=cz4_ BK103.out)|((with_reducible refine gate_callee (f:=63) rfl ?_);refine goesL_ (some 27) rfl rfl Try.func63 z3_17 rfl #[.agg #[.int .i64 a1_0,.int .i64 a1_1],.agg #[.int .i64 a0_0,.int .i64 a0_1]] rfl z3_5 ?_;(with_reducible refine(dots_Less.calls a1_0 a1_1 a0_0 a0_1 false _ A17.out).mono ?_);rintro e w42 ⟨rfl,hb⟩;refine ⟨_,rfl,?_⟩;replace BK103:=U (blk_below (g:=gb103) (o:=.cells #[.int .i64 a0_0,.int .i64 a0_1,.slice A0_2 l0_2.length c0_2,.slice A0_3 l0_3.length c0_3] 30 (0,0)) z3_2 hb);replace BK104:=U (blk_below (g:=gb104) (o:=.cells #[.int .i64 a1_0,.int .i64 a1_1,.slice A1_2 l1_2.length c1_2,.slice A1_3 l1_3.length c1_3] 30 (0,0)) z3_6 hb);replace HB:=U (below_step z3_1 hb);(try clear hb);(try clear hb2);(try clear hk);(try clear hi)))
 go_ret
 exact ⟨z3_9,z3_1⟩
def dots_May.f (a0_0:Int) (a0_1:Int):Option (Bool):=if a0_0>=1 then(if a0_0<=5 then(if a0_1>=1 then(some (decide (a0_1<=1048576))) else(some false)) else(some false)) else(some false)
theorem dots_May.calls (a0_0:Int) (a0_1:Int) (r:Bool) (w:World) (h:dots_May.f a0_0 a0_1=some r) :
  Calls Try.prog 64 #[.agg #[.int .i64 a0_0,.int .i64 a0_1]] w λe w'=>e = .returned (.bool r)/\Below w.heap.size w w':=by
 have hu25:=Try.underlying25
 have HB:=U (Below.refl w.heap.size w)
 have H:(if a0_0>=1 then(if a0_0<=5 then(if a0_1>=1 then(some (decide (a0_1<=1048576))) else(some false)) else(some false)) else(some false))=some r:=h
 clear h
 by_cases c2:a0_0>=1
 rotate_left
 ·rw [if_neg c2] at H
  have c2b0:decide (1<=a0_0)=false:=dF_ c2
  clear c2
  obtain rfl:=sI_ H
  go_enter Try.func64,Try.ntmps64
  go_wp2_with (first|((with_reducible refine gate_dst (N:=1) rfl ?_);refine box_event ?hg (N:=1) ?hd (cs:=#[.int .i64 a0_0,.int .i64 a0_1]) (t:=25) ?hr ?_;(case hd=>rfl);(case hg=>rfl);(case hr=>exact z3_10);intro gb109 hg w11 hbox hb;have BK109:=U (hbox);have GW109:=U ((by rw [hg];exact(below_size z3_0):w.heap.size<=gb109));have GE109:=U ((by rw [hg];exact(below_size z3_0):w.heap.size<=gb109));replace HB:=U (below_step z3_0 hb);clear hb hbox hg;obtain ⟨hcz12_0,hcz12_1,hfz12_0,hfz12_1⟩:=cz2_ BK109.out))
  go_ret
  exact ⟨z3_9,z3_13⟩
 rw [if_pos c2] at H
 have c2b0:decide (1<=a0_0)=true:=dT_ c2
 clear c2
 by_cases c3:a0_0<=5
 rotate_left
 ·rw [if_neg c3] at H
  have c3b0:decide (a0_0<=5)=false:=dF_ c3
  clear c3
  obtain rfl:=sI_ H
  go_enter Try.func64,Try.ntmps64
  go_wp2_with (first|((with_reducible refine gate_dst (N:=1) rfl ?_);refine box_event ?hg (N:=1) ?hd (cs:=#[.int .i64 a0_0,.int .i64 a0_1]) (t:=25) ?hr ?_;(case hd=>rfl);(case hg=>rfl);(case hr=>exact z3_10);intro gb109 hg w9 hbox hb;have BK109:=U (hbox);have GW109:=U ((by rw [hg];exact(below_size z3_0):w.heap.size<=gb109));have GE109:=U ((by rw [hg];exact(below_size z3_0):w.heap.size<=gb109));replace HB:=U (below_step z3_0 hb);clear hb hbox hg;obtain ⟨hcz10_0,hcz10_1,hfz10_0,hfz10_1⟩:=cz2_ BK109.out))
  go_ret
  exact ⟨z3_9,z3_13⟩
 rw [if_pos c3] at H
 have c3b0:decide (a0_0<=5)=true:=dT_ c3
 clear c3
 by_cases c4:a0_1>=1
 ·rw [if_pos c4] at H
  have c4b0:decide (1<=a0_1)=true:=dT_ c4
  clear c4
  obtain rfl:=sI_ H
  go_enter Try.func64,Try.ntmps64
  go_wp2_with (first|((with_reducible refine gate_dst (N:=1) rfl ?_);refine box_event ?hg (N:=1) ?hd (cs:=#[.int .i64 a0_0,.int .i64 a0_1]) (t:=25) ?hr ?_;(case hd=>rfl);(case hg=>rfl);(case hr=>exact z3_10);intro gb109 hg w5 hbox hb;have BK109:=U (hbox);have GW109:=U ((by rw [hg];exact(below_size z3_0):w.heap.size<=gb109));have GE109:=U ((by rw [hg];exact(below_size z3_0):w.heap.size<=gb109));replace HB:=U (below_step z3_0 hb);clear hb hbox hg;obtain ⟨hcz6_0,hcz6_1,hfz6_0,hfz6_1⟩:=cz2_ BK109.out))
  go_ret
  exact ⟨z3_9,z3_13⟩
 rw [if_neg c4] at H
 have c4b0:decide (1<=a0_1)=false:=dF_ c4
 clear c4
 obtain rfl:=sI_ H
 go_enter Try.func64,Try.ntmps64
 go_wp2_with (first|((with_reducible refine gate_dst (N:=1) rfl ?_);refine box_event ?hg (N:=1) ?hd (cs:=#[.int .i64 a0_0,.int .i64 a0_1]) (t:=25) ?hr ?_;(case hd=>rfl);(case hg=>rfl);(case hr=>exact z3_10);intro gb109 hg w7 hbox hb;have BK109:=U (hbox);have GW109:=U ((by rw [hg];exact(below_size z3_0):w.heap.size<=gb109));have GE109:=U ((by rw [hg];exact(below_size z3_0):w.heap.size<=gb109));replace HB:=U (below_step z3_0 hb);clear hb hbox hg;obtain ⟨hcz8_0,hcz8_1,hfz8_0,hfz8_1⟩:=cz2_ BK109.out))
 go_ret
 exact ⟨z3_9,z3_13⟩
def clock_Get.f (l0:List Int) (a1:Int):Option (Int):=some (ClockBase.getS l0 a1)
theorem clock_Get.calls (A0:Option Addr) (c0:Nat) (l0:List Int) (a1:Int) (r:Int) (w:World) (hr0:Kd.C (Kd.int .i64) w A0 l0.length l0) (hc0:l0.length<=c0) (h:clock_Get.f l0 a1=some r) :
  Calls Try.prog 65 #[.slice A0 l0.length c0,.int .i64 a1] w λe w'=>e = .returned (.int .i64 r)/\Below w.heap.size w w':=by
 obtain rfl:=sI_ h
 exact ClockBase.Get_calls A0 c0 l0 a1 w hr0
end Go.Proofs.Ytgocnchjpecafaa.PEv
