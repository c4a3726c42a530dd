/- a part -/
import Derived.Test.YtfhamdobagjakaaPCax0
namespace Go.Proofs.Ytfhamdobagjakaa.PCa
open Go.RowKit Go.Proofs.YtfhamdobagjakaaW.PrintWords Go.Proofs.YtfhamdobagjakaaW.PrintLast Go.Proofs.YtfhamdobagjakaaW.PrintMore
attribute [local go_sem] max2_int min2_int max_two min_two max_three min_three max_four min_four
set_option linter.unusedVariables false
set_option linter.unusedSimpArgs false
set_option maxHeartbeats 8000000
set_option maxRecDepth 100000
theorem z3_0 {P:Prop} (h:P:=by repeat(first|(with_reducible first|exact HB.out|apply below_alloc|apply pw_below_drewN|apply below_drew1|refine below_set ?_ GE101.out)|exact HB.out)):P:=h
theorem z3_1 {P:Prop} (h:P:=by repeat(first|(with_reducible first|exact HB.out|apply below_alloc|apply pw_below_drewN|apply below_drew1)|exact HB.out)):P:=h
theorem z3_2 {P:Prop} (h:P:=by(with_reducible repeat(first|refine blk_drewN ?_ _|refine blk_drew ?_|refine blk_alloc ?_ _));exact BK101.out):P:=h
theorem z3_3 {P:Prop} (h:P:=by repeat(first|(with_reducible first|exact HB.out|apply below_alloc|apply pw_below_drewN|apply below_drew1|refine below_set ?_ GE101.out|refine below_set ?_ GE102.out)|exact HB.out)):P:=h
theorem z3_4 {P:Prop} (h:P:=by first|(go_simp;done)|(go_simp;rfl)):P:=h
theorem z3_5 {P:Prop} (h:P:=by first|rfl|(simp [errW_none,errW_some]<;>rfl)|(simp [*,errW_none,errW_some]<;>rfl)):P:=h
def dots_Less.f (a0_0:Int) (a0_1:Int) (a1_0:Int) (a1_1:Int):Option (Bool):=if a0_0<a1_0 then(some true) else(if a0_0=a1_0 then(some (decide (a0_1<a1_1))) else(some false))
theorem dots_Less.calls (a0_0:Int) (a0_1:Int) (a1_0:Int) (a1_1:Int) (r:Bool) (w:World) (h:dots_Less.f a0_0 a0_1 a1_0 a1_1=some r) :
  Calls Try.prog 101 #[.agg #[.int .i64 a0_0,.int .i64 a0_1],.agg #[.int .i64 a1_0,.int .i64 a1_1]] w λe w'=>e = .returned (.bool r)/\Below w.heap.size w w':=by
 have hu54:=Try.underlying54
 have HB:=Aside0.mk (Below.refl w.heap.size w)
 have H:(if a0_0<a1_0 then(some true) else(if a0_0=a1_0 then(some (decide (a0_1<a1_1))) else(some false)))=some r:=h
 clear h
 by_cases c3:a0_0<a1_0
 ·rw [if_pos c3] at H
  have c3b0:decide (a0_0<a1_0)=true:=decide_eq_true c3
  clear c3
  obtain rfl:=Option.some.inj H
  go_enter Try.func101,Try.ntmps101
  go_wp2_with (first|((with_reducible refine gate_dst (N:=2) rfl ?_);refine box_event ?hg (N:=2) ?hd (cs:=#[.int .i64 a0_0,.int .i64 a0_1]) (t:=54) ?hr ?_;(case hd=>rfl);(case hg=>rfl);(case hr=>exact z3_4);intro gb101 hg w4 hbox hb;have BK101:=Aside0.mk (hbox);have GW101:=Aside0.mk ((by rw [hg];exact(below_size z3_1):w.heap.size<=gb101));have GE101:=Aside0.mk ((by rw [hg];exact(below_size z3_1):w.heap.size<=gb101));replace HB:=Aside0.mk (below_step z3_1 hb);clear hb hbox hg)|((with_reducible refine gate_dst (N:=3) rfl ?_);refine box_event ?hg (N:=3) ?hd (cs:=#[.int .i64 a1_0,.int .i64 a1_1]) (t:=54) ?hr ?_;(case hd=>rfl);(case hg=>rfl);(case hr=>exact z3_4);intro gb102 hg w5 hbox hb;have BK102:=Aside0.mk (hbox);have GW102:=Aside0.mk ((by rw [hg];exact(below_size z3_0):w.heap.size<=gb102));have GE102:=Aside0.mk ((by rw [hg];exact(below_size z3_0):w.heap.size<=gb102));replace HB:=Aside0.mk (below_step z3_0 hb);have NB101_102:=Aside0.mk ((by rw [hg];exact Nat.ne_of_lt (blk_lt (g:=gb101) (o:=.cells #[.int .i64 a0_0,.int .i64 a0_1] 54 (0,0)) z3_2):gb101≠gb102));have NB102_101:=Aside0.mk ((by rw [hg];exact Nat.ne_of_gt (blk_lt (g:=gb101) (o:=.cells #[.int .i64 a0_0,.int .i64 a0_1] 54 (0,0)) z3_2):gb102≠gb101));replace BK101:=Aside0.mk (blk_below (g:=gb101) (o:=.cells #[.int .i64 a0_0,.int .i64 a0_1] 54 (0,0)) z3_2 hb);clear hb hbox hg;have hnb6:=NB101_102.out;have hnc6:=NB102_101.out;obtain ⟨hcz7_0,hcz7_1,hfz7_0,hfz7_1⟩:=cz2_ BK101.out;obtain ⟨hcz8_0,hcz8_1,hfz8_0,hfz8_1⟩:=cz2_ BK102.out))
  go_ret
  exact ⟨z3_5,z3_3⟩
 rw [if_neg c3] at H
 have c3b0:decide (a0_0<a1_0)=false:=decide_eq_false c3
 clear c3
 by_cases c9:a0_0=a1_0
 rotate_left
 ·rw [if_neg c9] at H
  have c9b0:(a0_0 == a1_0)=false:=beq_eq_false_iff_ne.mpr c9
  have c9b1:(a0_0 != a1_0)=true:=bne_iff_ne.mpr c9
  obtain rfl:=Option.some.inj H
  go_enter Try.func101,Try.ntmps101
  go_wp2_with (first|((with_reducible refine gate_dst (N:=2) rfl ?_);refine box_event ?hg (N:=2) ?hd (cs:=#[.int .i64 a0_0,.int .i64 a0_1]) (t:=54) ?hr ?_;(case hd=>rfl);(case hg=>rfl);(case hr=>exact z3_4);intro gb101 hg w15 hbox hb;have BK101:=Aside0.mk (hbox);have GW101:=Aside0.mk ((by rw [hg];exact(below_size z3_1):w.heap.size<=gb101));have GE101:=Aside0.mk ((by rw [hg];exact(below_size z3_1):w.heap.size<=gb101));replace HB:=Aside0.mk (below_step z3_1 hb);clear hb hbox hg)|((with_reducible refine gate_dst (N:=3) rfl ?_);refine box_event ?hg (N:=3) ?hd (cs:=#[.int .i64 a1_0,.int .i64 a1_1]) (t:=54) ?hr ?_;(case hd=>rfl);(case hg=>rfl);(case hr=>exact z3_4);intro gb102 hg w16 hbox hb;have BK102:=Aside0.mk (hbox);have GW102:=Aside0.mk ((by rw [hg];exact(below_size z3_0):w.heap.size<=gb102));have GE102:=Aside0.mk ((by rw [hg];exact(below_size z3_0):w.heap.size<=gb102));replace HB:=Aside0.mk (below_step z3_0 hb);have NB101_102:=Aside0.mk ((by rw [hg];exact Nat.ne_of_lt (blk_lt (g:=gb101) (o:=.cells #[.int .i64 a0_0,.int .i64 a0_1] 54 (0,0)) z3_2):gb101≠gb102));have NB102_101:=Aside0.mk ((by rw [hg];exact Nat.ne_of_gt (blk_lt (g:=gb101) (o:=.cells #[.int .i64 a0_0,.int .i64 a0_1] 54 (0,0)) z3_2):gb102≠gb101));replace BK101:=Aside0.mk (blk_below (g:=gb101) (o:=.cells #[.int .i64 a0_0,.int .i64 a0_1] 54 (0,0)) z3_2 hb);clear hb hbox hg;have hnb17:=NB101_102.out;have hnc17:=NB102_101.out;obtain ⟨hcz18_0,hcz18_1,hfz18_0,hfz18_1⟩:=cz2_ BK101.out;obtain ⟨hcz19_0,hcz19_1,hfz19_0,hfz19_1⟩:=cz2_ BK102.out))
  go_ret
  exact ⟨z3_5,z3_3⟩
 rw [if_pos c9] at H
 have c9b0:(a0_0 == a1_0)=true:=beq_iff_eq.mpr c9
 have c9b1:(a0_0 != a1_0)=false:=bne_eq_false_iff_eq.mpr c9
 clear c9
 obtain rfl:=Option.some.inj H
 go_enter Try.func101,Try.ntmps101
 go_wp2_with (first|((with_reducible refine gate_dst (N:=2) rfl ?_);refine box_event ?hg (N:=2) ?hd (cs:=#[.int .i64 a0_0,.int .i64 a0_1]) (t:=54) ?hr ?_;(case hd=>rfl);(case hg=>rfl);(case hr=>exact z3_4);intro gb101 hg w10 hbox hb;have BK101:=Aside0.mk (hbox);have GW101:=Aside0.mk ((by rw [hg];exact(below_size z3_1):w.heap.size<=gb101));have GE101:=Aside0.mk ((by rw [hg];exact(below_size z3_1):w.heap.size<=gb101));replace HB:=Aside0.mk (below_step z3_1 hb);clear hb hbox hg)|((with_reducible refine gate_dst (N:=3) rfl ?_);refine box_event ?hg (N:=3) ?hd (cs:=#[.int .i64 a1_0,.int .i64 a1_1]) (t:=54) ?hr ?_;(case hd=>rfl);(case hg=>rfl);(case hr=>exact z3_4);intro gb102 hg w11 hbox hb;have BK102:=Aside0.mk (hbox);have GW102:=Aside0.mk ((by rw [hg];exact(below_size z3_0):w.heap.size<=gb102));have GE102:=Aside0.mk ((by rw [hg];exact(below_size z3_0):w.heap.size<=gb102));replace HB:=Aside0.mk (below_step z3_0 hb);have NB101_102:=Aside0.mk ((by rw [hg];exact Nat.ne_of_lt (blk_lt (g:=gb101) (o:=.cells #[.int .i64 a0_0,.int .i64 a0_1] 54 (0,0)) z3_2):gb101≠gb102));have NB102_101:=Aside0.mk ((by rw [hg];exact Nat.ne_of_gt (blk_lt (g:=gb101) (o:=.cells #[.int .i64 a0_0,.int .i64 a0_1] 54 (0,0)) z3_2):gb102≠gb101));replace BK101:=Aside0.mk (blk_below (g:=gb101) (o:=.cells #[.int .i64 a0_0,.int .i64 a0_1] 54 (0,0)) z3_2 hb);clear hb hbox hg;have hnb12:=NB101_102.out;have hnc12:=NB102_101.out;obtain ⟨hcz13_0,hcz13_1,hfz13_0,hfz13_1⟩:=cz2_ BK101.out;obtain ⟨hcz14_0,hcz14_1,hfz14_0,hfz14_1⟩:=cz2_ BK102.out))
 go_ret
 exact ⟨z3_5,z3_3⟩
end Go.Proofs.Ytfhamdobagjakaa.PCa
