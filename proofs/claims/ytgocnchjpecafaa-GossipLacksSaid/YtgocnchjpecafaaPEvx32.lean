/- a part -/
import Derived.Test.YtgocnchjpecafaaPEvx25
namespace Go.Proofs.Ytgocnchjpecafaa.PEv
open Go.RowKit Go.Proofs.YtgocnchjpecafaaW.PrintWords Go.Proofs.YtgocnchjpecafaaW.PrintLast Go.Proofs.YtgocnchjpecafaaW.PrintMore
attribute [local go_sem] max2_int min2_int max_two min_two max_three min_three max_four min_four
set_option linter.unusedVariables false
set_option linter.unusedSimpArgs false
set_option maxHeartbeats 8000000
set_option maxRecDepth 100000
theorem z32_1 {P:Prop} (h:P:=by repeat(first|(with_reducible first|exact HB.out|apply below_alloc|apply pw_below_drewN|apply below_drew1|refine below_set ?_ GE694.out|refine below_set ?_ GE695.out)|exact HB.out)):P:=h
theorem z32_2 {P:Prop} (h:P:=by repeat(first|(with_reducible first|exact HB.out|apply below_alloc|apply pw_below_drewN|apply below_drew1|refine below_set ?_ GE706.out)|exact HB.out)):P:=h
theorem z32_3 {P:Prop} (h:P:=by(with_reducible repeat(first|refine blk_drewN ?_ _|refine blk_drew ?_|refine blk_alloc ?_ _));exact BK694.out):P:=h
theorem z32_4 {P:Prop} (h:P:=by(with_reducible repeat(first|refine blk_drewN ?_ _|refine blk_drew ?_|refine blk_alloc ?_ _));exact BK706.out):P:=h
theorem z32_5 {P:Prop} (h:P:=by repeat(first|(with_reducible first|exact HB.out|apply below_alloc|apply pw_below_drewN|apply below_drew1|refine below_set ?_ GE706.out|refine below_set ?_ GE707.out)|exact HB.out)):P:=h
theorem z32_6 {P:Prop} (h:P:=by repeat(first|(with_reducible first|exact HB.out|apply below_alloc|apply pw_below_drewN|apply below_drew1|refine below_set ?_ GE694.out)|exact HB.out)):P:=h
theorem z32_8 {P:Prop} (h:P:=by(with_reducible repeat(first|refine blk_drewN ?_ _|refine blk_drew ?_|refine blk_alloc ?_ _));exact BK695.out):P:=h
theorem z32_9 {P:Prop} (h:P:=by(with_reducible repeat(first|refine blk_drewN ?_ _|refine blk_drew ?_|refine blk_alloc ?_ _));refine blk_put (cs:=#[.slice none 0 0,.bool false,.slice none 0 0]) ?_ 2 _ rfl;(with_reducible repeat(first|refine blk_drewN ?_ _|refine blk_drew ?_|refine blk_alloc ?_ _));refine blk_put (cs:=#[.slice none 0 0,.bool false,.slice none 0 0]) ?_ 1 _ rfl;(with_reducible repeat(first|refine blk_drewN ?_ _|refine blk_drew ?_|refine blk_alloc ?_ _));refine blk_put (cs:=#[.slice none 0 0,.bool false,.slice none 0 0]) ?_ 0 _ rfl;(with_reducible repeat(first|refine blk_drewN ?_ _|refine blk_drew ?_|refine blk_alloc ?_ _));exact BK695.out):P:=h
theorem z32_12 {P:Prop} (h:P:=by repeat(first|exact(Kd.C_below HR1_2.out z32_5)|(with_reducible refine Kd.C_alloc ?_ _)|(with_reducible refine Kd.C_drewN ?_ _)|(with_reducible refine Kd.C_drew ?_))):P:=h
theorem z32_13 {P:Prop} (h:P:=by repeat(first|(with_reducible first|exact HB.out|apply below_alloc|apply pw_below_drewN|apply below_drew1|refine below_set ?_ GE704.out)|exact HB.out)):P:=h
theorem z32_14 {P:Prop} (h:P:=by repeat(first|exact(Kd.C_below HR1.out HB.out)|(with_reducible refine Kd.C_alloc ?_ _)|(with_reducible refine Kd.C_drewN ?_ _)|(with_reducible refine Kd.C_drew ?_))):P:=h
theorem z32_16 {P:Prop} (h:P:=by(with_reducible repeat(first|refine blk_drewN ?_ _|refine blk_drew ?_|refine blk_alloc ?_ _));exact BK704.out):P:=h
theorem z32_17 {P:Prop} (h:P:=by repeat(first|exact(Kd.C_below HR2_0.out HB.out)|(with_reducible refine Kd.C_alloc ?_ _)|(with_reducible refine Kd.C_drewN ?_ _)|(with_reducible refine Kd.C_drew ?_))):P:=h
theorem z32_19 {P:Prop} (h:P:=by(with_reducible repeat(first|apply Kd.N_alloc|apply Kd.N_drewN|apply Kd.N_drew));exact HO698.out):P:=h
theorem z32_23 {P:Prop} (h:P:=by(with_reducible repeat(first|refine blk_drewN ?_ _|refine blk_drew ?_|refine blk_alloc ?_ _));exact BK707.out):P:=h
theorem z32_24 {P:Prop} (h:P:=by repeat(first|(with_reducible first|exact HB.out|apply below_alloc|apply pw_below_drewN|apply below_drew1|refine below_set ?_ GE704.out|refine below_set ?_ GE705.out)|exact HB.out)):P:=h
theorem z32_26 {P:Prop} (h:P:=by rw [hB8,hY];exact Kd.F_cut (m:=j.toNat) (c:=c3) (Kd.F_bound (Kd.N_F HO.out)) (by omega) (Kd.N_reads' HO.out).2.1):P:=h
def gossip_Answer.f (k:Nat) (l0:List (S30)) (l1:List Int) (l2_0:List Int) (a2_1:Bool) (l2_2:List (S30)):Option (List Int×Bool×(List (S30))×Bool):=(gossip_Lacks.f k l0 l2_0 16).bind fun t696=>((clock_Check.f l1).bind fun t699=>(if t699=0 then(if a2_1=true then(if (t696.length:Int)=0 then(some (([]:List Int),false,([]:List (S30)),false)) else((clock_Plain.f l1).bind fun t700=>(some (t700,false,t696,true)))) else(some (([]:List Int),false,([]:List (S30)),false))) else(some (([]:List Int),false,([]:List (S30)),false))))
theorem gossip_Answer.calls (k:Nat) (A0:Option Addr) (c0:Nat) (l0:List (S30)) (A1:Option Addr) (c1:Nat) (l1:List Int) (A2_0:Option Addr) (c2_0:Nat) (l2_0:List Int) (a2_1:Bool) (A2_2:Option Addr) (c2_2:Nat) (l2_2:List (S30)) (r1:List Int) (r2:Bool) (r3:List (S30)) (r4:Bool) (w:World) (hr0:Kd.C k30 w A0 l0.length l0) (hc0:l0.length≤c0) (hr1:Kd.C (Kd.int .i64) w A1 l1.length l1) (hc1:l1.length≤c1) (hr2_0:Kd.C (Kd.int .i64) w A2_0 l2_0.length l2_0) (hc2_0:l2_0.length≤c2_0) (hr2_2:Kd.C k30 w A2_2 l2_2.length l2_2) (hc2_2:l2_2.length≤c2_2) (h:gossip_Answer.f k l0 l1 l2_0 a2_1 l2_2=some (r1,r2,r3,r4)) :
  Calls Try.prog 40 #[.slice A0 l0.length c0,.slice A1 l1.length c1,.agg #[.slice A2_0 l2_0.length c2_0,.bool a2_1,.slice A2_2 l2_2.length c2_2]] w fun e w'=>∃ v0_ v2_:Value,e = .returned (.tuple #[.agg #[v0_,.bool r2,v2_],.bool r4])∧Kd.R (Kd.int .i64) 3 w' w.heap.size (fun k_=>(w.heap.size≤k_)) v0_ r1∧Kd.N k30 30 w' w.heap.size (fun k_=>(w.heap.size≤k_)∧some k_≠(v0_:Value).ownBlock) v2_ r3∧Below w.heap.size w w':=by
 have hu53:=Try.underlying53
 have HR0:=Aside0.mk hr0
 have HC0:=Aside0.mk hc0
 clear hr0 hc0
 have HR1:=Aside0.mk hr1
 have HC1:=Aside0.mk hc1
 clear hr1 hc1
 have HR2_0:=Aside0.mk hr2_0
 have HC2_0:=Aside0.mk hc2_0
 clear hr2_0 hc2_0
 have HR2_2:=Aside0.mk hr2_2
 have HC2_2:=Aside0.mk hc2_2
 clear hr2_2 hc2_2
 have HB:=Aside0.mk (Below.refl w.heap.size w)
 have H:((gossip_Lacks.f k l0 l2_0 16).bind fun t696=>((clock_Check.f l1).bind fun t699=>(if t699=0 then(if a2_1=true then(if (t696.length:Int)=0 then(some (([]:List Int),false,([]:List (S30)),false)) else((clock_Plain.f l1).bind fun t700=>(some (t700,false,t696,true)))) else(some (([]:List Int),false,([]:List (S30)),false))) else(some (([]:List Int),false,([]:List (S30)),false)))))=some (r1,r2,r3,r4):=h
 clear h
 replace H:=Option.bind_eq_some_iff.mp H
 obtain ⟨t696,A40,H⟩:=H
 replace H:((clock_Check.f l1).bind fun t699=>(if t699=0 then(if a2_1=true then(if (t696.length:Int)=0 then(some (([]:List Int),false,([]:List (S30)),false)) else((clock_Plain.f l1).bind fun t700=>(some (t700,false,t696,true)))) else(some (([]:List Int),false,([]:List (S30)),false))) else(some (([]:List Int),false,([]:List (S30)),false))))=some (r1,r2,r3,r4):=H
 have A4:=Aside0.mk A40
 clear A40
 replace H:=Option.bind_eq_some_iff.mp H
 obtain ⟨t699,A50,H⟩:=H
 replace H:(if t699=0 then(if a2_1=true then(if (t696.length:Int)=0 then(some (([]:List Int),false,([]:List (S30)),false)) else((clock_Plain.f l1).bind fun t700=>(some (t700,false,t696,true)))) else(some (([]:List Int),false,([]:List (S30)),false))) else(some (([]:List Int),false,([]:List (S30)),false)))=some (r1,r2,r3,r4):=H
 have A5:=Aside0.mk A50
 clear A50
 by_cases c6:t699=0
 rotate_left
 ·rw [if_neg c6] at H
  have c6b0:(t699 == 0)=false:=beq_eq_false_iff_ne.mpr c6
  have c6b1:(t699 != 0)=true:=bne_iff_ne.mpr c6
  simp only [Option.some.injEq,Prod.mk.injEq] at H
  obtain ⟨rfl,rfl,rfl,rfl⟩:=H
  go_enter Try.func40,Try.ntmps40
  go_wp2_with (first|((with_reducible refine gate_dst (N:=5) rfl ?_);(try(refine gate_guard (by rfl) ?_;dsimp only));refine box_event ?hg (N:=5) ?hd (cs:=#[.slice A2_0 l2_0.length c2_0,.bool a2_1,.slice A2_2 l2_2.length c2_2]) (t:=53) ?hr ?_;(case hd=>rfl);(case hg=>rfl);(case hr=>exact z10_10);intro gb694 hg w35 hbox hb;have BK694:=Aside0.mk (hbox);have GW694:=Aside0.mk ((by rw [hg];exact(below_size z20_4):w.heap.size≤gb694));have GE694:=Aside0.mk ((by rw [hg];exact(below_size z20_4):w.heap.size≤gb694));replace HB:=Aside0.mk (below_step z20_4 hb);clear hb hbox hg)|((with_reducible refine gate_dst (N:=6) rfl ?_);(try(refine gate_guard (by rfl) ?_;dsimp only));refine box_event ?hg (N:=6) ?hd (cs:=#[.slice none 0 0,.bool false,.slice none 0 0]) (t:=53) ?hr ?_;(case hd=>rfl);(case hg=>rfl);(case hr=>exact z10_10);intro gb695 hg w36 hbox hb;have BK695:=Aside0.mk (hbox);have GW695:=Aside0.mk ((by rw [hg];exact(below_size z32_6):w.heap.size≤gb695));have GE695:=Aside0.mk ((by rw [hg];exact(below_size z32_6):w.heap.size≤gb695));replace HB:=Aside0.mk (below_step z32_6 hb);have NB694_695:=Aside0.mk ((by rw [hg];exact Nat.ne_of_lt (blk_lt (g:=gb694) (o:=.cells #[.slice A2_0 l2_0.length c2_0,.bool a2_1,.slice A2_2 l2_2.length c2_2] 53 (0,0)) z32_3):gb694≠gb695));have NB695_694:=Aside0.mk ((by rw [hg];exact Nat.ne_of_gt (blk_lt (g:=gb694) (o:=.cells #[.slice A2_0 l2_0.length c2_0,.bool a2_1,.slice A2_2 l2_2.length c2_2] 53 (0,0)) z32_3):gb695≠gb694));replace BK694:=Aside0.mk (blk_below (g:=gb694) (o:=.cells #[.slice A2_0 l2_0.length c2_0,.bool a2_1,.slice A2_2 l2_2.length c2_2] 53 (0,0)) z32_3 hb);clear hb hbox hg;have hnb37:=NB694_695.out;have hnc37:=NB695_694.out;obtain ⟨hcz38_0,hcz38_1,hcz38_2,hfz38_0,hfz38_1,hfz38_2⟩:=cz3_ BK694.out)|((with_reducible refine gate_callee (f:=36) rfl ?_);refine goesL_ (some 12) rfl rfl Try.func36 z3_17 rfl #[.slice A0 l0.length c0,.slice A2_0 l2_0.length c2_0,.int .i64 16] rfl z6_5 ?_;(with_reducible refine(gossip_Lacks.calls k _ _ l0 _ _ l2_0 16 t696 _ ?side1 ?side2 ?side3 ?side4 A4.out).mono ?_);(case side1=>exact z10_9);(case side2=>exact HC0.out);(case side3=>exact z32_17);(case side4=>exact HC2_0.out);rintro e w39 ⟨v697,rfl,ho0,hb⟩;refine ⟨_,rfl,?_⟩;have HO698:=Aside0.mk (Kd.N_lower (Kd.N_mono (ok':=fun k_=>(w.heap.size≤k_)∧k_≠gb694∧k_≠gb695) ho0 (fun k_ hk_=>⟨(Nat.le_trans (below_size z32_1) hk_),(Kd.freshB (g:=gb694) (o:=.cells #[.slice A2_0 l2_0.length c2_0,.bool a2_1,.slice A2_2 l2_2.length c2_2] 53 (0,0)) z32_3 k_ hk_),(Kd.freshB (g:=gb695) (o:=.cells #[.slice none 0 0,.bool false,.slice none 0 0] 53 (0,0)) z32_8 k_ hk_)⟩)) (below_size z32_1));replace BK694:=Aside0.mk (blk_below (g:=gb694) (o:=.cells #[.slice A2_0 l2_0.length c2_0,.bool a2_1,.slice A2_2 l2_2.length c2_2] 53 (0,0)) z32_3 hb);replace BK695:=Aside0.mk (blk_below (g:=gb695) (o:=.cells #[.slice none 0 0,.bool false,.slice none 0 0] 53 (0,0)) z32_8 hb);replace HB:=Aside0.mk (below_step z32_1 hb);(try clear hb);(try clear hb2);(try clear hk);(try clear hi);(try clear ho0))|((with_reducible refine gate_callee (f:=71) rfl ?_);refine goesL_ (some 14) rfl rfl Try.func71 z3_17 rfl #[.slice A1 l1.length c1] rfl z6_5 ?_;(with_reducible refine(clock_Check.calls _ _ l1 t699 _ ?side1 ?side2 A5.out).mono ?_);(case side1=>exact z32_14);(case side2=>exact HC1.out);rintro e w' ⟨rfl,⟨nd,rfl⟩⟩;refine ⟨_,rfl,?_⟩;(try(rw [drewN_self w39];generalize hq_:World.drewN w39 _=w39;have n0_:Aside0 (Kd.N k30 30 w39 w.heap.size (fun k_=>(w.heap.size≤k_)∧k_≠gb694∧k_≠gb695) v697 t696):=⟨(by rw [←hq_];exact z32_19)⟩;have n1_:Aside0 (w39.heap[gb694]? = some (.cells #[.slice A2_0 l2_0.length c2_0,.bool a2_1,.slice A2_2 l2_2.length c2_2] 53 (0,0))):=⟨(by rw [←hq_];exact z32_3)⟩;have n2_:Aside0 (w39.heap[gb695]? = some (.cells #[.slice none 0 0,.bool false,.slice none 0 0] 53 (0,0))):=⟨(by rw [←hq_];exact z32_8)⟩;have n3_:Aside0 (Below w.heap.size w w39):=⟨(by rw [←hq_];exact z32_1)⟩;clear HO698 BK694 BK695 HB hq_;have HO698:=n0_;have BK694:=n1_;have BK695:=n2_;have HB:=n3_;clear n0_ n1_ n2_ n3_));obtain ⟨hcz40_0,hcz40_1,hcz40_2,hfz40_0,hfz40_1,hfz40_2⟩:=cz3_ BK695.out))
  refine bodyPost_ret (results_ct rfl _ _ gb695 53 #[.slice none 0 0,.bool false,.slice none 0 0] (0,0) _ rfl z32_9 Try.underlying53 rfl z3_17) rfl ?_
  exact ⟨_,_,z20_1,z6_7,z7_10,z32_1⟩
 rw [if_pos c6] at H
 have c6b0:(t699 == 0)=true:=beq_iff_eq.mpr c6
 have c6b1:(t699 != 0)=false:=bne_eq_false_iff_eq.mpr c6
 clear c6
 by_cases c7:a2_1=true
 rotate_left
 ·replace c7:=Bool.eq_false_iff.mpr c7
  subst c7
  have H1:(some (([]:List Int),false,([]:List (S30)),false))=some (r1,r2,r3,r4):=by rw [if_neg (show ¬ (false=true) by decide)] at H;exact H
  clear H
  have H:=H1
  clear H1
  simp only [Option.some.injEq,Prod.mk.injEq] at H
  obtain ⟨rfl,rfl,rfl,rfl⟩:=H
  go_enter Try.func40,Try.ntmps40
  go_wp2_with (first|((with_reducible refine gate_dst (N:=5) rfl ?_);(try(refine gate_guard (by rfl) ?_;dsimp only));refine box_event ?hg (N:=5) ?hd (cs:=#[.slice A2_0 l2_0.length c2_0,.bool false,.slice A2_2 l2_2.length c2_2]) (t:=53) ?hr ?_;(case hd=>rfl);(case hg=>rfl);(case hr=>exact z10_10);intro gb694 hg w28 hbox hb;have BK694:=Aside0.mk (hbox);have GW694:=Aside0.mk ((by rw [hg];exact(below_size z20_4):w.heap.size≤gb694));have GE694:=Aside0.mk ((by rw [hg];exact(below_size z20_4):w.heap.size≤gb694));replace HB:=Aside0.mk (below_step z20_4 hb);clear hb hbox hg)|((with_reducible refine gate_dst (N:=6) rfl ?_);(try(refine gate_guard (by rfl) ?_;dsimp only));refine box_event ?hg (N:=6) ?hd (cs:=#[.slice none 0 0,.bool false,.slice none 0 0]) (t:=53) ?hr ?_;(case hd=>rfl);(case hg=>rfl);(case hr=>exact z10_10);intro gb695 hg w29 hbox hb;have BK695:=Aside0.mk (hbox);have GW695:=Aside0.mk ((by rw [hg];exact(below_size z32_6):w.heap.size≤gb695));have GE695:=Aside0.mk ((by rw [hg];exact(below_size z32_6):w.heap.size≤gb695));replace HB:=Aside0.mk (below_step z32_6 hb);have NB694_695:=Aside0.mk ((by rw [hg];exact Nat.ne_of_lt (blk_lt (g:=gb694) (o:=.cells #[.slice A2_0 l2_0.length c2_0,.bool false,.slice A2_2 l2_2.length c2_2] 53 (0,0)) z32_3):gb694≠gb695));have NB695_694:=Aside0.mk ((by rw [hg];exact Nat.ne_of_gt (blk_lt (g:=gb694) (o:=.cells #[.slice A2_0 l2_0.length c2_0,.bool false,.slice A2_2 l2_2.length c2_2] 53 (0,0)) z32_3):gb695≠gb694));replace BK694:=Aside0.mk (blk_below (g:=gb694) (o:=.cells #[.slice A2_0 l2_0.length c2_0,.bool false,.slice A2_2 l2_2.length c2_2] 53 (0,0)) z32_3 hb);clear hb hbox hg;have hnb30:=NB694_695.out;have hnc30:=NB695_694.out;obtain ⟨hcz31_0,hcz31_1,hcz31_2,hfz31_0,hfz31_1,hfz31_2⟩:=cz3_ BK694.out)|((with_reducible refine gate_callee (f:=36) rfl ?_);refine goesL_ (some 12) rfl rfl Try.func36 z3_17 rfl #[.slice A0 l0.length c0,.slice A2_0 l2_0.length c2_0,.int .i64 16] rfl z6_5 ?_;(with_reducible refine(gossip_Lacks.calls k _ _ l0 _ _ l2_0 16 t696 _ ?side1 ?side2 ?side3 ?side4 A4.out).mono ?_);(case side1=>exact z10_9);(case side2=>exact HC0.out);(case side3=>exact z32_17);(case side4=>exact HC2_0.out);rintro e w32 ⟨v697,rfl,ho0,hb⟩;refine ⟨_,rfl,?_⟩;have HO698:=Aside0.mk (Kd.N_lower (Kd.N_mono (ok':=fun k_=>(w.heap.size≤k_)∧k_≠gb694∧k_≠gb695) ho0 (fun k_ hk_=>⟨(Nat.le_trans (below_size z32_1) hk_),(Kd.freshB (g:=gb694) (o:=.cells #[.slice A2_0 l2_0.length c2_0,.bool false,.slice A2_2 l2_2.length c2_2] 53 (0,0)) z32_3 k_ hk_),(Kd.freshB (g:=gb695) (o:=.cells #[.slice none 0 0,.bool false,.slice none 0 0] 53 (0,0)) z32_8 k_ hk_)⟩)) (below_size z32_1));replace BK694:=Aside0.mk (blk_below (g:=gb694) (o:=.cells #[.slice A2_0 l2_0.length c2_0,.bool false,.slice A2_2 l2_2.length c2_2] 53 (0,0)) z32_3 hb);replace BK695:=Aside0.mk (blk_below (g:=gb695) (o:=.cells #[.slice none 0 0,.bool false,.slice none 0 0] 53 (0,0)) z32_8 hb);replace HB:=Aside0.mk (below_step z32_1 hb);(try clear hb);(try clear hb2);(try clear hk);(try clear hi);(try clear ho0))|((with_reducible refine gate_callee (f:=71) rfl ?_);refine goesL_ (some 14) rfl rfl Try.func71 z3_17 rfl #[.slice A1 l1.length c1] rfl z6_5 ?_;(with_reducible refine(clock_Check.calls _ _ l1 t699 _ ?side1 ?side2 A5.out).mono ?_);(case side1=>exact z32_14);(case side2=>exact HC1.out);rintro e w' ⟨rfl,⟨nd,rfl⟩⟩;refine ⟨_,rfl,?_⟩;(try(rw [drewN_self w32];generalize hq_:World.drewN w32 _=w32;have n0_:Aside0 (Kd.N k30 30 w32 w.heap.size (fun k_=>(w.heap.size≤k_)∧k_≠gb694∧k_≠gb695) v697 t696):=⟨(by rw [←hq_];exact z32_19)⟩;have n1_:Aside0 (w32.heap[gb694]? = some (.cells #[.slice A2_0 l2_0.length c2_0,.bool false,.slice A2_2 l2_2.length c2_2] 53 (0,0))):=⟨(by rw [←hq_];exact z32_3)⟩;have n2_:Aside0 (w32.heap[gb695]? = some (.cells #[.slice none 0 0,.bool false,.slice none 0 0] 53 (0,0))):=⟨(by rw [←hq_];exact z32_8)⟩;have n3_:Aside0 (Below w.heap.size w w32):=⟨(by rw [←hq_];exact z32_1)⟩;clear HO698 BK694 BK695 HB hq_;have HO698:=n0_;have BK694:=n1_;have BK695:=n2_;have HB:=n3_;clear n0_ n1_ n2_ n3_));obtain ⟨hcz33_0,hcz33_1,hcz33_2,hfz33_0,hfz33_1,hfz33_2⟩:=cz3_ BK694.out;obtain ⟨hcz34_0,hcz34_1,hcz34_2,hfz34_0,hfz34_1,hfz34_2⟩:=cz3_ BK695.out))
  refine bodyPost_ret (results_ct rfl _ _ gb695 53 #[.slice none 0 0,.bool false,.slice none 0 0] (0,0) _ rfl z32_9 Try.underlying53 rfl z3_17) rfl ?_
  exact ⟨_,_,z20_1,z6_7,z7_10,z32_1⟩
 subst c7
 have H1:(if (t696.length:Int)=0 then(some (([]:List Int),false,([]:List (S30)),false)) else((clock_Plain.f l1).bind fun t700=>(some (t700,false,t696,true))))=some (r1,r2,r3,r4):=by rw [if_pos rfl] at H;exact H
 clear H
 have H:=H1
 clear H1
 by_cases c8:(t696.length:Int)=0
 ·rw [if_pos c8] at H
  have c8b0:((t696.length:Int) == 0)=true:=beq_iff_eq.mpr c8
  have c8b1:((t696.length:Int) != 0)=false:=bne_eq_false_iff_eq.mpr c8
  clear c8
  simp only [Option.some.injEq,Prod.mk.injEq] at H
  obtain ⟨rfl,rfl,rfl,rfl⟩:=H
  go_enter Try.func40,Try.ntmps40
  go_wp2_with (first|((with_reducible refine gate_dst (N:=5) rfl ?_);(try(refine gate_guard (by rfl) ?_;dsimp only));refine box_event ?hg (N:=5) ?hd (cs:=#[.slice A2_0 l2_0.length c2_0,.bool true,.slice A2_2 l2_2.length c2_2]) (t:=53) ?hr ?_;(case hd=>rfl);(case hg=>rfl);(case hr=>exact z10_10);intro gb694 hg w9 hbox hb;have BK694:=Aside0.mk (hbox);have GW694:=Aside0.mk ((by rw [hg];exact(below_size z20_4):w.heap.size≤gb694));have GE694:=Aside0.mk ((by rw [hg];exact(below_size z20_4):w.heap.size≤gb694));replace HB:=Aside0.mk (below_step z20_4 hb);clear hb hbox hg)|((with_reducible refine gate_dst (N:=6) rfl ?_);(try(refine gate_guard (by rfl) ?_;dsimp only));refine box_event ?hg (N:=6) ?hd (cs:=#[.slice none 0 0,.bool false,.slice none 0 0]) (t:=53) ?hr ?_;(case hd=>rfl);(case hg=>rfl);(case hr=>exact z10_10);intro gb695 hg w10 hbox hb;have BK695:=Aside0.mk (hbox);have GW695:=Aside0.mk ((by rw [hg];exact(below_size z32_6):w.heap.size≤gb695));have GE695:=Aside0.mk ((by rw [hg];exact(below_size z32_6):w.heap.size≤gb695));replace HB:=Aside0.mk (below_step z32_6 hb);have NB694_695:=Aside0.mk ((by rw [hg];exact Nat.ne_of_lt (blk_lt (g:=gb694) (o:=.cells #[.slice A2_0 l2_0.length c2_0,.bool true,.slice A2_2 l2_2.length c2_2] 53 (0,0)) z32_3):gb694≠gb695));have NB695_694:=Aside0.mk ((by rw [hg];exact Nat.ne_of_gt (blk_lt (g:=gb694) (o:=.cells #[.slice A2_0 l2_0.length c2_0,.bool true,.slice A2_2 l2_2.length c2_2] 53 (0,0)) z32_3):gb695≠gb694));replace BK694:=Aside0.mk (blk_below (g:=gb694) (o:=.cells #[.slice A2_0 l2_0.length c2_0,.bool true,.slice A2_2 l2_2.length c2_2] 53 (0,0)) z32_3 hb);clear hb hbox hg;have hnb11:=NB694_695.out;have hnc11:=NB695_694.out;obtain ⟨hcz12_0,hcz12_1,hcz12_2,hfz12_0,hfz12_1,hfz12_2⟩:=cz3_ BK694.out)|((with_reducible refine gate_callee (f:=36) rfl ?_);refine goesL_ (some 12) rfl rfl Try.func36 z3_17 rfl #[.slice A0 l0.length c0,.slice A2_0 l2_0.length c2_0,.int .i64 16] rfl z6_5 ?_;(with_reducible refine(gossip_Lacks.calls k _ _ l0 _ _ l2_0 16 t696 _ ?side1 ?side2 ?side3 ?side4 A4.out).mono ?_);(case side1=>exact z10_9);(case side2=>exact HC0.out);(case side3=>exact z32_17);(case side4=>exact HC2_0.out);rintro e w13 ⟨v697,rfl,ho0,hb⟩;refine ⟨_,rfl,?_⟩;have HO698:=Aside0.mk (Kd.N_lower (Kd.N_mono (ok':=fun k_=>(w.heap.size≤k_)∧k_≠gb694∧k_≠gb695) ho0 (fun k_ hk_=>⟨(Nat.le_trans (below_size z32_1) hk_),(Kd.freshB (g:=gb694) (o:=.cells #[.slice A2_0 l2_0.length c2_0,.bool true,.slice A2_2 l2_2.length c2_2] 53 (0,0)) z32_3 k_ hk_),(Kd.freshB (g:=gb695) (o:=.cells #[.slice none 0 0,.bool false,.slice none 0 0] 53 (0,0)) z32_8 k_ hk_)⟩)) (below_size z32_1));replace BK694:=Aside0.mk (blk_below (g:=gb694) (o:=.cells #[.slice A2_0 l2_0.length c2_0,.bool true,.slice A2_2 l2_2.length c2_2] 53 (0,0)) z32_3 hb);replace BK695:=Aside0.mk (blk_below (g:=gb695) (o:=.cells #[.slice none 0 0,.bool false,.slice none 0 0] 53 (0,0)) z32_8 hb);replace HB:=Aside0.mk (below_step z32_1 hb);(try clear hb);(try clear hb2);(try clear hk);(try clear hi);(try clear ho0))|((with_reducible refine gate_callee (f:=71) rfl ?_);refine goesL_ (some 14) rfl rfl Try.func71 z3_17 rfl #[.slice A1 l1.length c1] rfl z6_5 ?_;(with_reducible refine(clock_Check.calls _ _ l1 t699 _ ?side1 ?side2 A5.out).mono ?_);(case side1=>exact z32_14);(case side2=>exact HC1.out);rintro e w' ⟨rfl,⟨nd,rfl⟩⟩;refine ⟨_,rfl,?_⟩;(try(rw [drewN_self w13];generalize hq_:World.drewN w13 _=w13;have n0_:Aside0 (Kd.N k30 30 w13 w.heap.size (fun k_=>(w.heap.size≤k_)∧k_≠gb694∧k_≠gb695) v697 t696):=⟨(by rw [←hq_];exact z32_19)⟩;have n1_:Aside0 (w13.heap[gb694]? = some (.cells #[.slice A2_0 l2_0.length c2_0,.bool true,.slice A2_2 l2_2.length c2_2] 53 (0,0))):=⟨(by rw [←hq_];exact z32_3)⟩;have n2_:Aside0 (w13.heap[gb695]? = some (.cells #[.slice none 0 0,.bool false,.slice none 0 0] 53 (0,0))):=⟨(by rw [←hq_];exact z32_8)⟩;have n3_:Aside0 (Below w.heap.size w w13):=⟨(by rw [←hq_];exact z32_1)⟩;clear HO698 BK694 BK695 HB hq_;have HO698:=n0_;have BK694:=n1_;have BK695:=n2_;have HB:=n3_;clear n0_ n1_ n2_ n3_));obtain ⟨hcz14_0,hcz14_1,hcz14_2,hfz14_0,hfz14_1,hfz14_2⟩:=cz3_ BK694.out;obtain ⟨Ao15,co15,eo15⟩:=Kd.N_slice HO698.out;subst eo15;obtain ⟨hcz16_0,hcz16_1,hcz16_2,hfz16_0,hfz16_1,hfz16_2⟩:=cz3_ BK695.out))
  refine bodyPost_ret (results_ct rfl _ _ gb695 53 #[.slice none 0 0,.bool false,.slice none 0 0] (0,0) _ rfl z32_9 Try.underlying53 rfl z3_17) rfl ?_
  exact ⟨_,_,z20_1,z6_7,z7_10,z32_1⟩
 rw [if_neg c8] at H
 have c8b0:((t696.length:Int) == 0)=false:=beq_eq_false_iff_ne.mpr c8
 have c8b1:((t696.length:Int) != 0)=true:=bne_iff_ne.mpr c8
 have c8b2:¬ (t696=[]):=fun h_=>c8 (by rw [h_];rfl)
 replace H:=Option.bind_eq_some_iff.mp H
 obtain ⟨t700,A170,H⟩:=H
 replace H:(some (t700,false,t696,true))=some (r1,r2,r3,r4):=H
 have A17:=Aside0.mk A170
 clear A170
 simp only [Option.some.injEq,Prod.mk.injEq] at H
 obtain ⟨rfl,rfl,rfl,rfl⟩:=H
 go_enter Try.func40,Try.ntmps40
 go_wp2_with (first|((with_reducible refine gate_dst (N:=5) rfl ?_);(try(refine gate_guard (by rfl) ?_;dsimp only));refine box_event ?hg (N:=5) ?hd (cs:=#[.slice A2_0 l2_0.length c2_0,.bool true,.slice A2_2 l2_2.length c2_2]) (t:=53) ?hr ?_;(case hd=>rfl);(case hg=>rfl);(case hr=>exact z10_10);intro gb694 hg w18 hbox hb;have BK694:=Aside0.mk (hbox);have GW694:=Aside0.mk ((by rw [hg];exact(below_size z20_4):w.heap.size≤gb694));have GE694:=Aside0.mk ((by rw [hg];exact(below_size z20_4):w.heap.size≤gb694));replace HB:=Aside0.mk (below_step z20_4 hb);clear hb hbox hg)|((with_reducible refine gate_dst (N:=6) rfl ?_);(try(refine gate_guard (by rfl) ?_;dsimp only));refine box_event ?hg (N:=6) ?hd (cs:=#[.slice none 0 0,.bool false,.slice none 0 0]) (t:=53) ?hr ?_;(case hd=>rfl);(case hg=>rfl);(case hr=>exact z10_10);intro gb695 hg w19 hbox hb;have BK695:=Aside0.mk (hbox);have GW695:=Aside0.mk ((by rw [hg];exact(below_size z32_6):w.heap.size≤gb695));have GE695:=Aside0.mk ((by rw [hg];exact(below_size z32_6):w.heap.size≤gb695));replace HB:=Aside0.mk (below_step z32_6 hb);have NB694_695:=Aside0.mk ((by rw [hg];exact Nat.ne_of_lt (blk_lt (g:=gb694) (o:=.cells #[.slice A2_0 l2_0.length c2_0,.bool true,.slice A2_2 l2_2.length c2_2] 53 (0,0)) z32_3):gb694≠gb695));have NB695_694:=Aside0.mk ((by rw [hg];exact Nat.ne_of_gt (blk_lt (g:=gb694) (o:=.cells #[.slice A2_0 l2_0.length c2_0,.bool true,.slice A2_2 l2_2.length c2_2] 53 (0,0)) z32_3):gb695≠gb694));replace BK694:=Aside0.mk (blk_below (g:=gb694) (o:=.cells #[.slice A2_0 l2_0.length c2_0,.bool true,.slice A2_2 l2_2.length c2_2] 53 (0,0)) z32_3 hb);clear hb hbox hg;have hnb20:=NB694_695.out;have hnc20:=NB695_694.out;obtain ⟨hcz21_0,hcz21_1,hcz21_2,hfz21_0,hfz21_1,hfz21_2⟩:=cz3_ BK694.out)|((with_reducible refine gate_callee (f:=36) rfl ?_);refine goesL_ (some 12) rfl rfl Try.func36 z3_17 rfl #[.slice A0 l0.length c0,.slice A2_0 l2_0.length c2_0,.int .i64 16] rfl z6_5 ?_;(with_reducible refine(gossip_Lacks.calls k _ _ l0 _ _ l2_0 16 t696 _ ?side1 ?side2 ?side3 ?side4 A4.out).mono ?_);(case side1=>exact z10_9);(case side2=>exact HC0.out);(case side3=>exact z32_17);(case side4=>exact HC2_0.out);rintro e w22 ⟨v697,rfl,ho0,hb⟩;refine ⟨_,rfl,?_⟩;have HO698:=Aside0.mk (Kd.N_lower (Kd.N_mono (ok':=fun k_=>(w.heap.size≤k_)∧k_≠gb694∧k_≠gb695) ho0 (fun k_ hk_=>⟨(Nat.le_trans (below_size z32_1) hk_),(Kd.freshB (g:=gb694) (o:=.cells #[.slice A2_0 l2_0.length c2_0,.bool true,.slice A2_2 l2_2.length c2_2] 53 (0,0)) z32_3 k_ hk_),(Kd.freshB (g:=gb695) (o:=.cells #[.slice none 0 0,.bool false,.slice none 0 0] 53 (0,0)) z32_8 k_ hk_)⟩)) (below_size z32_1));replace BK694:=Aside0.mk (blk_below (g:=gb694) (o:=.cells #[.slice A2_0 l2_0.length c2_0,.bool true,.slice A2_2 l2_2.length c2_2] 53 (0,0)) z32_3 hb);replace BK695:=Aside0.mk (blk_below (g:=gb695) (o:=.cells #[.slice none 0 0,.bool false,.slice none 0 0] 53 (0,0)) z32_8 hb);replace HB:=Aside0.mk (below_step z32_1 hb);(try clear hb);(try clear hb2);(try clear hk);(try clear hi);(try clear ho0))|((with_reducible refine gate_callee (f:=71) rfl ?_);refine goesL_ (some 14) rfl rfl Try.func71 z3_17 rfl #[.slice A1 l1.length c1] rfl z6_5 ?_;(with_reducible refine(clock_Check.calls _ _ l1 t699 _ ?side1 ?side2 A5.out).mono ?_);(case side1=>exact z32_14);(case side2=>exact HC1.out);rintro e w' ⟨rfl,⟨nd,rfl⟩⟩;refine ⟨_,rfl,?_⟩;(try(rw [drewN_self w22];generalize hq_:World.drewN w22 _=w22;have n0_:Aside0 (Kd.N k30 30 w22 w.heap.size (fun k_=>(w.heap.size≤k_)∧k_≠gb694∧k_≠gb695) v697 t696):=⟨(by rw [←hq_];exact z32_19)⟩;have n1_:Aside0 (w22.heap[gb694]? = some (.cells #[.slice A2_0 l2_0.length c2_0,.bool true,.slice A2_2 l2_2.length c2_2] 53 (0,0))):=⟨(by rw [←hq_];exact z32_3)⟩;have n2_:Aside0 (w22.heap[gb695]? = some (.cells #[.slice none 0 0,.bool false,.slice none 0 0] 53 (0,0))):=⟨(by rw [←hq_];exact z32_8)⟩;have n3_:Aside0 (Below w.heap.size w w22):=⟨(by rw [←hq_];exact z32_1)⟩;clear HO698 BK694 BK695 HB hq_;have HO698:=n0_;have BK694:=n1_;have BK695:=n2_;have HB:=n3_;clear n0_ n1_ n2_ n3_));obtain ⟨hcz23_0,hcz23_1,hcz23_2,hfz23_0,hfz23_1,hfz23_2⟩:=cz3_ BK694.out;obtain ⟨Ao24,co24,eo24⟩:=Kd.N_slice HO698.out;subst eo24)|((with_reducible refine gate_callee (f:=72) rfl ?_);refine goesL_ (some 28) rfl rfl Try.func72 z3_17 rfl #[.slice A1 l1.length c1] rfl z6_5 ?_;(with_reducible refine(clock_Plain.calls _ _ l1 t700 _ ?side1 ?side2 A17.out).mono ?_);(case side1=>exact z32_14);(case side2=>exact HC1.out);rintro e w25 ⟨v701,rfl,ho0,hb⟩;refine ⟨_,rfl,?_⟩;replace HO698:=Aside0.mk (Kd.N_elder' z32_19 (Kd.R_base ho0) hb);have HO702:=Aside0.mk (Kd.R_lower (Kd.R_newM (M:=fun k_=>(w.heap.size≤k_)) ho0 (below_size z32_1) (fun k_ h_=>h_)) (below_size z32_1));replace BK694:=Aside0.mk (blk_below (g:=gb694) (o:=.cells #[.slice A2_0 l2_0.length c2_0,.bool true,.slice A2_2 l2_2.length c2_2] 53 (0,0)) z32_3 hb);replace BK695:=Aside0.mk (blk_below (g:=gb695) (o:=.cells #[.slice none 0 0,.bool false,.slice none 0 0] 53 (0,0)) z32_8 hb);replace HB:=Aside0.mk (below_step z32_1 hb);(try clear hb);(try clear hb2);(try clear hk);(try clear hi);(try clear ho0);obtain ⟨Ao26,co26,eo26⟩:=Kd.R_slice HO702.out;subst eo26;obtain ⟨hcz27_0,hcz27_1,hcz27_2,hfz27_0,hfz27_1,hfz27_2⟩:=cz3_ BK695.out))
 refine bodyPost_ret (results_ct rfl _ _ gb695 53 #[.slice Ao26 t700.length co26,.bool false,.slice Ao24 t696.length co24] (0,0) _ rfl (by(with_reducible repeat(first|refine blk_drewN ?_ _|refine blk_drew ?_|refine blk_alloc ?_ _));refine blk_put (cs:=#[.slice Ao26 t700.length co26,.bool false,.slice none 0 0]) ?_ 2 _ rfl;(with_reducible repeat(first|refine blk_drewN ?_ _|refine blk_drew ?_|refine blk_alloc ?_ _));refine blk_put (cs:=#[.slice Ao26 t700.length co26,.bool false,.slice none 0 0]) ?_ 1 _ rfl;(with_reducible repeat(first|refine blk_drewN ?_ _|refine blk_drew ?_|refine blk_alloc ?_ _));refine blk_put (cs:=#[.slice none 0 0,.bool false,.slice none 0 0]) ?_ 0 _ rfl;(with_reducible repeat(first|refine blk_drewN ?_ _|refine blk_drew ?_|refine blk_alloc ?_ _));exact BK695.out) Try.underlying53 rfl z3_17) rfl ?_
 exact ⟨_,_,z20_1,(by(with_reducible repeat(first|apply Kd.R_alloc|apply Kd.R_drewN|apply Kd.R_drew));exact Kd.R_mono (Kd.R_far (p:=⟨gb695,2,none⟩) (Kd.R_far (p:=⟨gb695,1,none⟩) (Kd.R_far (p:=⟨gb695,0,none⟩) (Kd.R_types HO702.out BK695.out (by decide)) (fun _ hk=>hk.2) (.slice Ao26 t700.length co26)) (fun _ hk=>hk.2) (.bool false)) (fun _ hk=>hk.2) (.slice Ao24 t696.length co24)) (fun _ hk=>hk.1.1)),(by(with_reducible repeat(first|apply Kd.N_alloc|apply Kd.N_drewN|apply Kd.N_drew));exact Kd.N_mono (Kd.N_far (p:=⟨gb695,2,none⟩) (Kd.N_far (p:=⟨gb695,1,none⟩) (Kd.N_far (p:=⟨gb695,0,none⟩) (Kd.N_mono HO698.out (fun k_ hk=>(⟨hk,hk.1.2.2⟩:_∧k_≠gb695))) (fun _ hk=>hk.2) (.slice Ao26 t700.length co26)) (fun _ hk=>hk.2) (.bool false)) (fun _ hk=>hk.2) (.slice Ao24 t696.length co24)) (fun _ hk=>⟨hk.1.1.1,hk.1.2⟩)),z32_1⟩
def r03_Sum.l0:Nat→List Int→Int→Int→Option (Int)
 | 0,_,_,_=>none
 | k+1,x0,x3,x4=>if x4≤5 then((r03_Get.f k x0 x4).bind fun t703=>(r03_Sum.l0 k x0 (wrap64 (x3+t703)) (wrap64 (x4+1)))) else(some x3)
def r03_Sum.f (k:Nat) (l0:List Int):Option (Int):=r03_Sum.l0 k l0 0 1
theorem r03_Sum.calls (k:Nat) (A0:Option Addr) (c0:Nat) (l0:List Int) (r:Int) (w:World) (hr0:Kd.C (Kd.int .i64) w A0 l0.length l0) (hc0:l0.length≤c0) (h:r03_Sum.f k l0=some r) :
  Calls Try.prog 82 #[.slice A0 l0.length c0] w fun e w'=>e = .returned (.int .i64 r)∧Drawn0 w w':=by
 have HR0:=Aside0.mk hr0
 have HC0:=Aside0.mk hc0
 clear hr0 hc0
 have H:(r03_Sum.l0 k l0 0 1)=some r:=h
 clear h
 have H':=Aside0.mk H
 clear H
 go_enter Try.func82,Try.ntmps82
 go_wp2
 go_loopg [3,4] k (fun kq v3 v4 w'=>∃ (x3_1:Int) (x4_1:Int),v3 = .int .i64 x3_1∧v4 = .int .i64 x4_1∧Aside0 (r03_Sum.l0 kq l0 x3_1 x4_1=some r)∧Aside0 (kq≤k)∧Drawn0 w w')
 case atStart=>exact ⟨(0),(1),z20_3,z20_3,H',⟨Nat.le_refl _⟩,(by repeat(first|exact Drawn0.refl _|apply Drawn0.step))⟩
 case round =>
 clear H'
 obtain ⟨x3_1,x4_1,rfl,rfl,HA,HK1,⟨m1,rfl⟩⟩:=hrel
 cases gk with
 | zero=>exact absurd HA.out (by simp [r03_Sum.l0])
 | succ k1 =>
 have H:=HA.out
 clear HA
 simp only [r03_Sum.l0] at H
 by_cases c2:x4_1≤5
 rotate_left
 ·rw [if_neg c2] at H
  have c2b0:decide (x4_1≤5)=false:=decide_eq_false c2
  clear c2
  obtain rfl:=Option.some.inj H
  go_wp2
  go_ret
  exact ⟨z20_3,(by repeat(first|exact Drawn0.refl _|apply Drawn0.step))⟩
 rw [if_pos c2] at H
 have c2b0:decide (x4_1≤5)=true:=decide_eq_true c2
 clear c2
 replace H:=Option.bind_eq_some_iff.mp H
 obtain ⟨t703,A30,H⟩:=H
 replace H:(r03_Sum.l0 k1 l0 (wrap64 (x3_1+t703)) (wrap64 (x4_1+1)))=some r:=H
 have A3:=Aside0.mk A30
 clear A30
 have H':=Aside0.mk H
 clear H
 go_wp2_with (first|((with_reducible refine gate_callee (f:=58) rfl ?_);refine goesL_ (some 12) rfl rfl Try.func58 z3_17 rfl #[.slice A0 l0.length c0,.int .i64 x4_1] rfl z6_5 ?_;(with_reducible refine(r03_Get.calls k1 _ _ l0 x4_1 t703 _ ?side1 ?side2 A3.out).mono ?_);(case side1=>repeat(first|exact HR0.out|(with_reducible refine Kd.C_alloc ?_ _)|(with_reducible refine Kd.C_drewN ?_ _)|(with_reducible refine Kd.C_drew ?_)));(case side2=>exact HC0.out);rintro e w' ⟨rfl,⟨nd,rfl⟩⟩;refine ⟨_,rfl,?_⟩))
 go_roundg k1
 case measure=>have:=HK1.out;omega
 case rel=>exact ⟨(wrap64 (x3_1+t703)),(wrap64 (x4_1+1)),z20_3,z20_3,H',⟨(by have:=HK1.out;omega)⟩,(by repeat(first|exact Drawn0.refl _|apply Drawn0.step))⟩
def r04_Less.f (a0_0:Int) (a0_1:Int) (a1_0:Int) (a1_1:Int):Option (Bool):=if a0_0=a1_0 then(some (decide (a0_1<a1_1))) else(some (decide (a0_0<a1_0)))
theorem r04_Less.calls (a0_0:Int) (a0_1:Int) (a1_0:Int) (a1_1:Int) (r:Bool) (w:World) (h:r04_Less.f a0_0 a0_1 a1_0 a1_1=some r) :
  Calls Try.prog 110 #[.agg #[.int .i64 a0_0,.int .i64 a0_1],.agg #[.int .i64 a1_0,.int .i64 a1_1]] w fun e w'=>e = .returned (.bool r)∧Below w.heap.size w w':=by
 have hu25:=Try.underlying25
 have HB:=Aside0.mk (Below.refl w.heap.size w)
 have H:(if a0_0=a1_0 then(some (decide (a0_1<a1_1))) else(some (decide (a0_0<a1_0))))=some r:=h
 clear h
 by_cases c3:a0_0=a1_0
 rotate_left
 ·rw [if_neg c3] at H
  have c3b0:(a0_0 == a1_0)=false:=beq_eq_false_iff_ne.mpr c3
  have c3b1:(a0_0 != a1_0)=true:=bne_iff_ne.mpr c3
  obtain rfl:=Option.some.inj H
  go_enter Try.func110,Try.ntmps110
  go_wp2_with (first|((with_reducible refine gate_dst (N:=2) rfl ?_);refine box_event ?hg (N:=2) ?hd (cs:=#[.int .i64 a0_0,.int .i64 a0_1]) (t:=25) ?hr ?_;(case hd=>rfl);(case hg=>rfl);(case hr=>exact z10_10);intro gb704 hg w9 hbox hb;have BK704:=Aside0.mk (hbox);have GW704:=Aside0.mk ((by rw [hg];exact(below_size z20_4):w.heap.size≤gb704));have GE704:=Aside0.mk ((by rw [hg];exact(below_size z20_4):w.heap.size≤gb704));replace HB:=Aside0.mk (below_step z20_4 hb);clear hb hbox hg)|((with_reducible refine gate_dst (N:=3) rfl ?_);refine box_event ?hg (N:=3) ?hd (cs:=#[.int .i64 a1_0,.int .i64 a1_1]) (t:=25) ?hr ?_;(case hd=>rfl);(case hg=>rfl);(case hr=>exact z10_10);intro gb705 hg w10 hbox hb;have BK705:=Aside0.mk (hbox);have GW705:=Aside0.mk ((by rw [hg];exact(below_size z32_13):w.heap.size≤gb705));have GE705:=Aside0.mk ((by rw [hg];exact(below_size z32_13):w.heap.size≤gb705));replace HB:=Aside0.mk (below_step z32_13 hb);have NB704_705:=Aside0.mk ((by rw [hg];exact Nat.ne_of_lt (blk_lt (g:=gb704) (o:=.cells #[.int .i64 a0_0,.int .i64 a0_1] 25 (0,0)) z32_16):gb704≠gb705));have NB705_704:=Aside0.mk ((by rw [hg];exact Nat.ne_of_gt (blk_lt (g:=gb704) (o:=.cells #[.int .i64 a0_0,.int .i64 a0_1] 25 (0,0)) z32_16):gb705≠gb704));replace BK704:=Aside0.mk (blk_below (g:=gb704) (o:=.cells #[.int .i64 a0_0,.int .i64 a0_1] 25 (0,0)) z32_16 hb);clear hb hbox hg;have hnb11:=NB704_705.out;have hnc11:=NB705_704.out;obtain ⟨hcz12_0,hcz12_1,hfz12_0,hfz12_1⟩:=cz2_ BK704.out;obtain ⟨hcz13_0,hcz13_1,hfz13_0,hfz13_1⟩:=cz2_ BK705.out))
  go_ret
  exact ⟨z20_1,z32_24⟩
 rw [if_pos c3] at H
 have c3b0:(a0_0 == a1_0)=true:=beq_iff_eq.mpr c3
 have c3b1:(a0_0 != a1_0)=false:=bne_eq_false_iff_eq.mpr c3
 clear c3
 obtain rfl:=Option.some.inj H
 go_enter Try.func110,Try.ntmps110
 go_wp2_with (first|((with_reducible refine gate_dst (N:=2) rfl ?_);refine box_event ?hg (N:=2) ?hd (cs:=#[.int .i64 a0_0,.int .i64 a0_1]) (t:=25) ?hr ?_;(case hd=>rfl);(case hg=>rfl);(case hr=>exact z10_10);intro gb704 hg w4 hbox hb;have BK704:=Aside0.mk (hbox);have GW704:=Aside0.mk ((by rw [hg];exact(below_size z20_4):w.heap.size≤gb704));have GE704:=Aside0.mk ((by rw [hg];exact(below_size z20_4):w.heap.size≤gb704));replace HB:=Aside0.mk (below_step z20_4 hb);clear hb hbox hg)|((with_reducible refine gate_dst (N:=3) rfl ?_);refine box_event ?hg (N:=3) ?hd (cs:=#[.int .i64 a1_0,.int .i64 a1_1]) (t:=25) ?hr ?_;(case hd=>rfl);(case hg=>rfl);(case hr=>exact z10_10);intro gb705 hg w5 hbox hb;have BK705:=Aside0.mk (hbox);have GW705:=Aside0.mk ((by rw [hg];exact(below_size z32_13):w.heap.size≤gb705));have GE705:=Aside0.mk ((by rw [hg];exact(below_size z32_13):w.heap.size≤gb705));replace HB:=Aside0.mk (below_step z32_13 hb);have NB704_705:=Aside0.mk ((by rw [hg];exact Nat.ne_of_lt (blk_lt (g:=gb704) (o:=.cells #[.int .i64 a0_0,.int .i64 a0_1] 25 (0,0)) z32_16):gb704≠gb705));have NB705_704:=Aside0.mk ((by rw [hg];exact Nat.ne_of_gt (blk_lt (g:=gb704) (o:=.cells #[.int .i64 a0_0,.int .i64 a0_1] 25 (0,0)) z32_16):gb705≠gb704));replace BK704:=Aside0.mk (blk_below (g:=gb704) (o:=.cells #[.int .i64 a0_0,.int .i64 a0_1] 25 (0,0)) z32_16 hb);clear hb hbox hg;have hnb6:=NB704_705.out;have hnc6:=NB705_704.out;obtain ⟨hcz7_0,hcz7_1,hfz7_0,hfz7_1⟩:=cz2_ BK704.out;obtain ⟨hcz8_0,hcz8_1,hfz8_0,hfz8_1⟩:=cz2_ BK705.out))
 go_ret
 exact ⟨z20_1,z32_24⟩
def r05_less.f (k:Nat) (a0_0:Int) (a0_1:Int) (l0_2:List Int) (l0_3:List (S48)) (a1_0:Int) (a1_1:Int) (l1_2:List Int) (l1_3:List (S48)):Option (Bool):=(r03_Sum.f k l0_2).bind fun t708=>((r03_Sum.f k l1_2).bind fun t709=>(if t708=t709 then((r04_Less.f a0_0 a0_1 a1_0 a1_1).bind fun t710=>(some t710)) else(some (decide (t708<t709)))))
theorem r05_less.calls (k:Nat) (a0_0:Int) (a0_1:Int) (A0_2:Option Addr) (c0_2:Nat) (l0_2:List Int) (A0_3:Option Addr) (c0_3:Nat) (l0_3:List (S48)) (a1_0:Int) (a1_1:Int) (A1_2:Option Addr) (c1_2:Nat) (l1_2:List Int) (A1_3:Option Addr) (c1_3:Nat) (l1_3:List (S48)) (r:Bool) (w:World) (hr0_2:Kd.C (Kd.int .i64) w A0_2 l0_2.length l0_2) (hc0_2:l0_2.length≤c0_2) (hr0_3:Kd.C k48 w A0_3 l0_3.length l0_3) (hc0_3:l0_3.length≤c0_3) (hr1_2:Kd.C (Kd.int .i64) w A1_2 l1_2.length l1_2) (hc1_2:l1_2.length≤c1_2) (hr1_3:Kd.C k48 w A1_3 l1_3.length l1_3) (hc1_3:l1_3.length≤c1_3) (h:r05_less.f k a0_0 a0_1 l0_2 l0_3 a1_0 a1_1 l1_2 l1_3=some r) :
  Calls Try.prog 103 #[.agg #[.int .i64 a0_0,.int .i64 a0_1,.slice A0_2 l0_2.length c0_2,.slice A0_3 l0_3.length c0_3],.agg #[.int .i64 a1_0,.int .i64 a1_1,.slice A1_2 l1_2.length c1_2,.slice A1_3 l1_3.length c1_3]] w fun e w'=>e = .returned (.bool r)∧Below w.heap.size w w':=by
 have hu30:=Try.underlying30
 have hu25:=Try.underlying25
 have HR0_2:=Aside0.mk hr0_2
 have HC0_2:=Aside0.mk hc0_2
 clear hr0_2 hc0_2
 have HR0_3:=Aside0.mk hr0_3
 have HC0_3:=Aside0.mk hc0_3
 clear hr0_3 hc0_3
 have HR1_2:=Aside0.mk hr1_2
 have HC1_2:=Aside0.mk hc1_2
 clear hr1_2 hc1_2
 have HR1_3:=Aside0.mk hr1_3
 have HC1_3:=Aside0.mk hc1_3
 clear hr1_3 hc1_3
 have HB:=Aside0.mk (Below.refl w.heap.size w)
 have H:((r03_Sum.f k l0_2).bind fun t708=>((r03_Sum.f k l1_2).bind fun t709=>(if t708=t709 then((r04_Less.f a0_0 a0_1 a1_0 a1_1).bind fun t710=>(some t710)) else(some (decide (t708<t709))))))=some r:=h
 clear h
 replace H:=Option.bind_eq_some_iff.mp H
 obtain ⟨t708,A30,H⟩:=H
 replace H:((r03_Sum.f k l1_2).bind fun t709=>(if t708=t709 then((r04_Less.f a0_0 a0_1 a1_0 a1_1).bind fun t710=>(some t710)) else(some (decide (t708<t709)))))=some r:=H
 have A3:=Aside0.mk A30
 clear A30
 replace H:=Option.bind_eq_some_iff.mp H
 obtain ⟨t709,A40,H⟩:=H
 replace H:(if t708=t709 then((r04_Less.f a0_0 a0_1 a1_0 a1_1).bind fun t710=>(some t710)) else(some (decide (t708<t709))))=some r:=H
 have A4:=Aside0.mk A40
 clear A40
 by_cases c5:t708=t709
 rotate_left
 ·rw [if_neg c5] at H
  have c5b0:(t708 == t709)=false:=beq_eq_false_iff_ne.mpr c5
  have c5b1:(t708 != t709)=true:=bne_iff_ne.mpr c5
  obtain rfl:=Option.some.inj H
  go_enter Try.func103,Try.ntmps103
  go_wp2_with (first|((with_reducible refine gate_dst (N:=2) rfl ?_);refine box_event ?hg (N:=2) ?hd (cs:=#[.int .i64 a0_0,.int .i64 a0_1,.slice A0_2 l0_2.length c0_2,.slice A0_3 l0_3.length c0_3]) (t:=30) ?hr ?_;(case hd=>rfl);(case hg=>rfl);(case hr=>exact z10_10);intro gb706 hg w13 hbox hb;have BK706:=Aside0.mk (hbox);have GW706:=Aside0.mk ((by rw [hg];exact(below_size z20_4):w.heap.size≤gb706));have GE706:=Aside0.mk ((by rw [hg];exact(below_size z20_4):w.heap.size≤gb706));replace HB:=Aside0.mk (below_step z20_4 hb);clear hb hbox hg)|((with_reducible refine gate_dst (N:=3) rfl ?_);refine box_event ?hg (N:=3) ?hd (cs:=#[.int .i64 a1_0,.int .i64 a1_1,.slice A1_2 l1_2.length c1_2,.slice A1_3 l1_3.length c1_3]) (t:=30) ?hr ?_;(case hd=>rfl);(case hg=>rfl);(case hr=>exact z10_10);intro gb707 hg w14 hbox hb;have BK707:=Aside0.mk (hbox);have GW707:=Aside0.mk ((by rw [hg];exact(below_size z32_2):w.heap.size≤gb707));have GE707:=Aside0.mk ((by rw [hg];exact(below_size z32_2):w.heap.size≤gb707));replace HB:=Aside0.mk (below_step z32_2 hb);have NB706_707:=Aside0.mk ((by rw [hg];exact Nat.ne_of_lt (blk_lt (g:=gb706) (o:=.cells #[.int .i64 a0_0,.int .i64 a0_1,.slice A0_2 l0_2.length c0_2,.slice A0_3 l0_3.length c0_3] 30 (0,0)) z32_4):gb706≠gb707));have NB707_706:=Aside0.mk ((by rw [hg];exact Nat.ne_of_gt (blk_lt (g:=gb706) (o:=.cells #[.int .i64 a0_0,.int .i64 a0_1,.slice A0_2 l0_2.length c0_2,.slice A0_3 l0_3.length c0_3] 30 (0,0)) z32_4):gb707≠gb706));replace BK706:=Aside0.mk (blk_below (g:=gb706) (o:=.cells #[.int .i64 a0_0,.int .i64 a0_1,.slice A0_2 l0_2.length c0_2,.slice A0_3 l0_3.length c0_3] 30 (0,0)) z32_4 hb);clear hb hbox hg;have hnb15:=NB706_707.out;have hnc15:=NB707_706.out;obtain ⟨hcz16_0,hcz16_1,hcz16_2,hcz16_3,hfz16_0,hfz16_1,hfz16_2,hfz16_3⟩:=cz4_ BK706.out)|(go_at_call 82;(with_reducible refine(r03_Sum.calls k _ _ l0_2 t708 _ ?side1 ?side2 A3.out).mono ?_);(case side1=>exact z3_11);(case side2=>exact HC0_2.out);rintro e w' ⟨rfl,⟨nd,rfl⟩⟩;(try first|exact ⟨rfl,_,World.drewN_drewN _ _ _⟩|exact ⟨rfl,_,Eq.trans (World.drewN_drewN _ _ _) (congrArg (World.drewN _) (Nat.add_assoc _ _ _))⟩);obtain ⟨hcz17_0,hcz17_1,hcz17_2,hcz17_3,hfz17_0,hfz17_1,hfz17_2,hfz17_3⟩:=cz4_ BK707.out)|(go_at_call 82;(with_reducible refine(r03_Sum.calls k _ _ l1_2 t709 _ ?side1 ?side2 A4.out).mono ?_);(case side1=>exact z32_12);(case side2=>exact HC1_2.out);rintro e w' ⟨rfl,⟨nd,rfl⟩⟩;(try first|exact ⟨rfl,_,World.drewN_drewN _ _ _⟩|exact ⟨rfl,_,Eq.trans (World.drewN_drewN _ _ _) (congrArg (World.drewN _) (Nat.add_assoc _ _ _))⟩)))
  repeat(go_quiet (first|((with_reducible refine gate_dst (N:=2) rfl ?_);refine box_event ?hg (N:=2) ?hd (cs:=#[.int .i64 a0_0,.int .i64 a0_1,.slice A0_2 l0_2.length c0_2,.slice A0_3 l0_3.length c0_3]) (t:=30) ?hr ?_;(case hd=>rfl);(case hg=>rfl);(case hr=>exact z10_10);intro gb706 hg w13 hbox hb;have BK706:=Aside0.mk (hbox);have GW706:=Aside0.mk ((by rw [hg];exact(below_size z20_4):w.heap.size≤gb706));have GE706:=Aside0.mk ((by rw [hg];exact(below_size z20_4):w.heap.size≤gb706));replace HB:=Aside0.mk (below_step z20_4 hb);clear hb hbox hg)|((with_reducible refine gate_dst (N:=3) rfl ?_);refine box_event ?hg (N:=3) ?hd (cs:=#[.int .i64 a1_0,.int .i64 a1_1,.slice A1_2 l1_2.length c1_2,.slice A1_3 l1_3.length c1_3]) (t:=30) ?hr ?_;(case hd=>rfl);(case hg=>rfl);(case hr=>exact z10_10);intro gb707 hg w14 hbox hb;have BK707:=Aside0.mk (hbox);have GW707:=Aside0.mk ((by rw [hg];exact(below_size z32_2):w.heap.size≤gb707));have GE707:=Aside0.mk ((by rw [hg];exact(below_size z32_2):w.heap.size≤gb707));replace HB:=Aside0.mk (below_step z32_2 hb);have NB706_707:=Aside0.mk ((by rw [hg];exact Nat.ne_of_lt (blk_lt (g:=gb706) (o:=.cells #[.int .i64 a0_0,.int .i64 a0_1,.slice A0_2 l0_2.length c0_2,.slice A0_3 l0_3.length c0_3] 30 (0,0)) z32_4):gb706≠gb707));have NB707_706:=Aside0.mk ((by rw [hg];exact Nat.ne_of_gt (blk_lt (g:=gb706) (o:=.cells #[.int .i64 a0_0,.int .i64 a0_1,.slice A0_2 l0_2.length c0_2,.slice A0_3 l0_3.length c0_3] 30 (0,0)) z32_4):gb707≠gb706));replace BK706:=Aside0.mk (blk_below (g:=gb706) (o:=.cells #[.int .i64 a0_0,.int .i64 a0_1,.slice A0_2 l0_2.length c0_2,.slice A0_3 l0_3.length c0_3] 30 (0,0)) z32_4 hb);clear hb hbox hg;have hnb15:=NB706_707.out;have hnc15:=NB707_706.out;obtain ⟨hcz16_0,hcz16_1,hcz16_2,hcz16_3,hfz16_0,hfz16_1,hfz16_2,hfz16_3⟩:=cz4_ BK706.out)|(go_at_call 82;(with_reducible refine(r03_Sum.calls k _ _ l0_2 t708 _ ?side1 ?side2 A3.out).mono ?_);(case side1=>exact z3_11);(case side2=>exact HC0_2.out);rintro e w' ⟨rfl,⟨nd,rfl⟩⟩;(try first|exact ⟨rfl,_,World.drewN_drewN _ _ _⟩|exact ⟨rfl,_,Eq.trans (World.drewN_drewN _ _ _) (congrArg (World.drewN _) (Nat.add_assoc _ _ _))⟩);obtain ⟨hcz17_0,hcz17_1,hcz17_2,hcz17_3,hfz17_0,hfz17_1,hfz17_2,hfz17_3⟩:=cz4_ BK707.out)|(go_at_call 82;(with_reducible refine(r03_Sum.calls k _ _ l1_2 t709 _ ?side1 ?side2 A4.out).mono ?_);(case side1=>exact z32_12);(case side2=>exact HC1_2.out);rintro e w' ⟨rfl,⟨nd,rfl⟩⟩;(try first|exact ⟨rfl,_,World.drewN_drewN _ _ _⟩|exact ⟨rfl,_,Eq.trans (World.drewN_drewN _ _ _) (congrArg (World.drewN _) (Nat.add_assoc _ _ _))⟩)));try go_wp2_with (first|((with_reducible refine gate_dst (N:=2) rfl ?_);refine box_event ?hg (N:=2) ?hd (cs:=#[.int .i64 a0_0,.int .i64 a0_1,.slice A0_2 l0_2.length c0_2,.slice A0_3 l0_3.length c0_3]) (t:=30) ?hr ?_;(case hd=>rfl);(case hg=>rfl);(case hr=>exact z10_10);intro gb706 hg w13 hbox hb;have BK706:=Aside0.mk (hbox);have GW706:=Aside0.mk ((by rw [hg];exact(below_size z20_4):w.heap.size≤gb706));have GE706:=Aside0.mk ((by rw [hg];exact(below_size z20_4):w.heap.size≤gb706));replace HB:=Aside0.mk (below_step z20_4 hb);clear hb hbox hg)|((with_reducible refine gate_dst (N:=3) rfl ?_);refine box_event ?hg (N:=3) ?hd (cs:=#[.int .i64 a1_0,.int .i64 a1_1,.slice A1_2 l1_2.length c1_2,.slice A1_3 l1_3.length c1_3]) (t:=30) ?hr ?_;(case hd=>rfl);(case hg=>rfl);(case hr=>exact z10_10);intro gb707 hg w14 hbox hb;have BK707:=Aside0.mk (hbox);have GW707:=Aside0.mk ((by rw [hg];exact(below_size z32_2):w.heap.size≤gb707));have GE707:=Aside0.mk ((by rw [hg];exact(below_size z32_2):w.heap.size≤gb707));replace HB:=Aside0.mk (below_step z32_2 hb);have NB706_707:=Aside0.mk ((by rw [hg];exact Nat.ne_of_lt (blk_lt (g:=gb706) (o:=.cells #[.int .i64 a0_0,.int .i64 a0_1,.slice A0_2 l0_2.length c0_2,.slice A0_3 l0_3.length c0_3] 30 (0,0)) z32_4):gb706≠gb707));have NB707_706:=Aside0.mk ((by rw [hg];exact Nat.ne_of_gt (blk_lt (g:=gb706) (o:=.cells #[.int .i64 a0_0,.int .i64 a0_1,.slice A0_2 l0_2.length c0_2,.slice A0_3 l0_3.length c0_3] 30 (0,0)) z32_4):gb707≠gb706));replace BK706:=Aside0.mk (blk_below (g:=gb706) (o:=.cells #[.int .i64 a0_0,.int .i64 a0_1,.slice A0_2 l0_2.length c0_2,.slice A0_3 l0_3.length c0_3] 30 (0,0)) z32_4 hb);clear hb hbox hg;have hnb15:=NB706_707.out;have hnc15:=NB707_706.out;obtain ⟨hcz16_0,hcz16_1,hcz16_2,hcz16_3,hfz16_0,hfz16_1,hfz16_2,hfz16_3⟩:=cz4_ BK706.out)|(go_at_call 82;(with_reducible refine(r03_Sum.calls k _ _ l0_2 t708 _ ?side1 ?side2 A3.out).mono ?_);(case side1=>exact z3_11);(case side2=>exact HC0_2.out);rintro e w' ⟨rfl,⟨nd,rfl⟩⟩;(try first|exact ⟨rfl,_,World.drewN_drewN _ _ _⟩|exact ⟨rfl,_,Eq.trans (World.drewN_drewN _ _ _) (congrArg (World.drewN _) (Nat.add_assoc _ _ _))⟩);obtain ⟨hcz17_0,hcz17_1,hcz17_2,hcz17_3,hfz17_0,hfz17_1,hfz17_2,hfz17_3⟩:=cz4_ BK707.out)|(go_at_call 82;(with_reducible refine(r03_Sum.calls k _ _ l1_2 t709 _ ?side1 ?side2 A4.out).mono ?_);(case side1=>exact z32_12);(case side2=>exact HC1_2.out);rintro e w' ⟨rfl,⟨nd,rfl⟩⟩;(try first|exact ⟨rfl,_,World.drewN_drewN _ _ _⟩|exact ⟨rfl,_,Eq.trans (World.drewN_drewN _ _ _) (congrArg (World.drewN _) (Nat.add_assoc _ _ _))⟩))))
  go_ret
  exact ⟨z20_1,z32_5⟩
 rw [if_pos c5] at H
 have c5b0:(t708 == t709)=true:=beq_iff_eq.mpr c5
 have c5b1:(t708 != t709)=false:=bne_eq_false_iff_eq.mpr c5
 clear c5
 replace H:=Option.bind_eq_some_iff.mp H
 obtain ⟨t710,A60,H⟩:=H
 replace H:(some t710)=some r:=H
 have A6:=Aside0.mk A60
 clear A60
 obtain rfl:=Option.some.inj H
 go_enter Try.func103,Try.ntmps103
 go_wp2_with (first|((with_reducible refine gate_dst (N:=2) rfl ?_);refine box_event ?hg (N:=2) ?hd (cs:=#[.int .i64 a0_0,.int .i64 a0_1,.slice A0_2 l0_2.length c0_2,.slice A0_3 l0_3.length c0_3]) (t:=30) ?hr ?_;(case hd=>rfl);(case hg=>rfl);(case hr=>exact z10_10);intro gb706 hg w7 hbox hb;have BK706:=Aside0.mk (hbox);have GW706:=Aside0.mk ((by rw [hg];exact(below_size z20_4):w.heap.size≤gb706));have GE706:=Aside0.mk ((by rw [hg];exact(below_size z20_4):w.heap.size≤gb706));replace HB:=Aside0.mk (below_step z20_4 hb);clear hb hbox hg)|((with_reducible refine gate_dst (N:=3) rfl ?_);refine box_event ?hg (N:=3) ?hd (cs:=#[.int .i64 a1_0,.int .i64 a1_1,.slice A1_2 l1_2.length c1_2,.slice A1_3 l1_3.length c1_3]) (t:=30) ?hr ?_;(case hd=>rfl);(case hg=>rfl);(case hr=>exact z10_10);intro gb707 hg w8 hbox hb;have BK707:=Aside0.mk (hbox);have GW707:=Aside0.mk ((by rw [hg];exact(below_size z32_2):w.heap.size≤gb707));have GE707:=Aside0.mk ((by rw [hg];exact(below_size z32_2):w.heap.size≤gb707));replace HB:=Aside0.mk (below_step z32_2 hb);have NB706_707:=Aside0.mk ((by rw [hg];exact Nat.ne_of_lt (blk_lt (g:=gb706) (o:=.cells #[.int .i64 a0_0,.int .i64 a0_1,.slice A0_2 l0_2.length c0_2,.slice A0_3 l0_3.length c0_3] 30 (0,0)) z32_4):gb706≠gb707));have NB707_706:=Aside0.mk ((by rw [hg];exact Nat.ne_of_gt (blk_lt (g:=gb706) (o:=.cells #[.int .i64 a0_0,.int .i64 a0_1,.slice A0_2 l0_2.length c0_2,.slice A0_3 l0_3.length c0_3] 30 (0,0)) z32_4):gb707≠gb706));replace BK706:=Aside0.mk (blk_below (g:=gb706) (o:=.cells #[.int .i64 a0_0,.int .i64 a0_1,.slice A0_2 l0_2.length c0_2,.slice A0_3 l0_3.length c0_3] 30 (0,0)) z32_4 hb);clear hb hbox hg;have hnb9:=NB706_707.out;have hnc9:=NB707_706.out;obtain ⟨hcz10_0,hcz10_1,hcz10_2,hcz10_3,hfz10_0,hfz10_1,hfz10_2,hfz10_3⟩:=cz4_ BK706.out)|(go_at_call 82;(with_reducible refine(r03_Sum.calls k _ _ l0_2 t708 _ ?side1 ?side2 A3.out).mono ?_);(case side1=>exact z3_11);(case side2=>exact HC0_2.out);rintro e w' ⟨rfl,⟨nd,rfl⟩⟩;(try first|exact ⟨rfl,_,World.drewN_drewN _ _ _⟩|exact ⟨rfl,_,Eq.trans (World.drewN_drewN _ _ _) (congrArg (World.drewN _) (Nat.add_assoc _ _ _))⟩);obtain ⟨hcz11_0,hcz11_1,hcz11_2,hcz11_3,hfz11_0,hfz11_1,hfz11_2,hfz11_3⟩:=cz4_ BK707.out)|(go_at_call 82;(with_reducible refine(r03_Sum.calls k _ _ l1_2 t709 _ ?side1 ?side2 A4.out).mono ?_);(case side1=>exact z32_12);(case side2=>exact HC1_2.out);rintro e w' ⟨rfl,⟨nd,rfl⟩⟩;(try first|exact ⟨rfl,_,World.drewN_drewN _ _ _⟩|exact ⟨rfl,_,Eq.trans (World.drewN_drewN _ _ _) (congrArg (World.drewN _) (Nat.add_assoc _ _ _))⟩))|(go_at_call 110;(with_reducible refine(r04_Less.calls a0_0 a0_1 a1_0 a1_1 t710 _ A6.out).mono ?_);rintro e w12 ⟨rfl,hb⟩;replace BK706:=Aside0.mk (blk_below (g:=gb706) (o:=.cells #[.int .i64 a0_0,.int .i64 a0_1,.slice A0_2 l0_2.length c0_2,.slice A0_3 l0_3.length c0_3] 30 (0,0)) z32_4 hb);replace BK707:=Aside0.mk (blk_below (g:=gb707) (o:=.cells #[.int .i64 a1_0,.int .i64 a1_1,.slice A1_2 l1_2.length c1_2,.slice A1_3 l1_3.length c1_3] 30 (0,0)) z32_23 hb);replace HB:=Aside0.mk (below_step z32_5 hb);(try clear hb);(try clear hb2);(try clear hk);(try clear hi)))
 repeat(go_quiet (first|((with_reducible refine gate_dst (N:=2) rfl ?_);refine box_event ?hg (N:=2) ?hd (cs:=#[.int .i64 a0_0,.int .i64 a0_1,.slice A0_2 l0_2.length c0_2,.slice A0_3 l0_3.length c0_3]) (t:=30) ?hr ?_;(case hd=>rfl);(case hg=>rfl);(case hr=>exact z10_10);intro gb706 hg w7 hbox hb;have BK706:=Aside0.mk (hbox);have GW706:=Aside0.mk ((by rw [hg];exact(below_size z20_4):w.heap.size≤gb706));have GE706:=Aside0.mk ((by rw [hg];exact(below_size z20_4):w.heap.size≤gb706));replace HB:=Aside0.mk (below_step z20_4 hb);clear hb hbox hg)|((with_reducible refine gate_dst (N:=3) rfl ?_);refine box_event ?hg (N:=3) ?hd (cs:=#[.int .i64 a1_0,.int .i64 a1_1,.slice A1_2 l1_2.length c1_2,.slice A1_3 l1_3.length c1_3]) (t:=30) ?hr ?_;(case hd=>rfl);(case hg=>rfl);(case hr=>exact z10_10);intro gb707 hg w8 hbox hb;have BK707:=Aside0.mk (hbox);have GW707:=Aside0.mk ((by rw [hg];exact(below_size z32_2):w.heap.size≤gb707));have GE707:=Aside0.mk ((by rw [hg];exact(below_size z32_2):w.heap.size≤gb707));replace HB:=Aside0.mk (below_step z32_2 hb);have NB706_707:=Aside0.mk ((by rw [hg];exact Nat.ne_of_lt (blk_lt (g:=gb706) (o:=.cells #[.int .i64 a0_0,.int .i64 a0_1,.slice A0_2 l0_2.length c0_2,.slice A0_3 l0_3.length c0_3] 30 (0,0)) z32_4):gb706≠gb707));have NB707_706:=Aside0.mk ((by rw [hg];exact Nat.ne_of_gt (blk_lt (g:=gb706) (o:=.cells #[.int .i64 a0_0,.int .i64 a0_1,.slice A0_2 l0_2.length c0_2,.slice A0_3 l0_3.length c0_3] 30 (0,0)) z32_4):gb707≠gb706));replace BK706:=Aside0.mk (blk_below (g:=gb706) (o:=.cells #[.int .i64 a0_0,.int .i64 a0_1,.slice A0_2 l0_2.length c0_2,.slice A0_3 l0_3.length c0_3] 30 (0,0)) z32_4 hb);clear hb hbox hg;have hnb9:=NB706_707.out;have hnc9:=NB707_706.out;obtain ⟨hcz10_0,hcz10_1,hcz10_2,hcz10_3,hfz10_0,hfz10_1,hfz10_2,hfz10_3⟩:=cz4_ BK706.out)|(go_at_call 82;(with_reducible refine(r03_Sum.calls k _ _ l0_2 t708 _ ?side1 ?side2 A3.out).mono ?_);(case side1=>exact z3_11);(case side2=>exact HC0_2.out);rintro e w' ⟨rfl,⟨nd,rfl⟩⟩;(try first|exact ⟨rfl,_,World.drewN_drewN _ _ _⟩|exact ⟨rfl,_,Eq.trans (World.drewN_drewN _ _ _) (congrArg (World.drewN _) (Nat.add_assoc _ _ _))⟩);obtain ⟨hcz11_0,hcz11_1,hcz11_2,hcz11_3,hfz11_0,hfz11_1,hfz11_2,hfz11_3⟩:=cz4_ BK707.out)|(go_at_call 82;(with_reducible refine(r03_Sum.calls k _ _ l1_2 t709 _ ?side1 ?side2 A4.out).mono ?_);(case side1=>exact z32_12);(case side2=>exact HC1_2.out);rintro e w' ⟨rfl,⟨nd,rfl⟩⟩;(try first|exact ⟨rfl,_,World.drewN_drewN _ _ _⟩|exact ⟨rfl,_,Eq.trans (World.drewN_drewN _ _ _) (congrArg (World.drewN _) (Nat.add_assoc _ _ _))⟩))|(go_at_call 110;(with_reducible refine(r04_Less.calls a0_0 a0_1 a1_0 a1_1 t710 _ A6.out).mono ?_);rintro e w12 ⟨rfl,hb⟩;replace BK706:=Aside0.mk (blk_below (g:=gb706) (o:=.cells #[.int .i64 a0_0,.int .i64 a0_1,.slice A0_2 l0_2.length c0_2,.slice A0_3 l0_3.length c0_3] 30 (0,0)) z32_4 hb);replace BK707:=Aside0.mk (blk_below (g:=gb707) (o:=.cells #[.int .i64 a1_0,.int .i64 a1_1,.slice A1_2 l1_2.length c1_2,.slice A1_3 l1_3.length c1_3] 30 (0,0)) z32_23 hb);replace HB:=Aside0.mk (below_step z32_5 hb);(try clear hb);(try clear hb2);(try clear hk);(try clear hi)));try go_wp2_with (first|((with_reducible refine gate_dst (N:=2) rfl ?_);refine box_event ?hg (N:=2) ?hd (cs:=#[.int .i64 a0_0,.int .i64 a0_1,.slice A0_2 l0_2.length c0_2,.slice A0_3 l0_3.length c0_3]) (t:=30) ?hr ?_;(case hd=>rfl);(case hg=>rfl);(case hr=>exact z10_10);intro gb706 hg w7 hbox hb;have BK706:=Aside0.mk (hbox);have GW706:=Aside0.mk ((by rw [hg];exact(below_size z20_4):w.heap.size≤gb706));have GE706:=Aside0.mk ((by rw [hg];exact(below_size z20_4):w.heap.size≤gb706));replace HB:=Aside0.mk (below_step z20_4 hb);clear hb hbox hg)|((with_reducible refine gate_dst (N:=3) rfl ?_);refine box_event ?hg (N:=3) ?hd (cs:=#[.int .i64 a1_0,.int .i64 a1_1,.slice A1_2 l1_2.length c1_2,.slice A1_3 l1_3.length c1_3]) (t:=30) ?hr ?_;(case hd=>rfl);(case hg=>rfl);(case hr=>exact z10_10);intro gb707 hg w8 hbox hb;have BK707:=Aside0.mk (hbox);have GW707:=Aside0.mk ((by rw [hg];exact(below_size z32_2):w.heap.size≤gb707));have GE707:=Aside0.mk ((by rw [hg];exact(below_size z32_2):w.heap.size≤gb707));replace HB:=Aside0.mk (below_step z32_2 hb);have NB706_707:=Aside0.mk ((by rw [hg];exact Nat.ne_of_lt (blk_lt (g:=gb706) (o:=.cells #[.int .i64 a0_0,.int .i64 a0_1,.slice A0_2 l0_2.length c0_2,.slice A0_3 l0_3.length c0_3] 30 (0,0)) z32_4):gb706≠gb707));have NB707_706:=Aside0.mk ((by rw [hg];exact Nat.ne_of_gt (blk_lt (g:=gb706) (o:=.cells #[.int .i64 a0_0,.int .i64 a0_1,.slice A0_2 l0_2.length c0_2,.slice A0_3 l0_3.length c0_3] 30 (0,0)) z32_4):gb707≠gb706));replace BK706:=Aside0.mk (blk_below (g:=gb706) (o:=.cells #[.int .i64 a0_0,.int .i64 a0_1,.slice A0_2 l0_2.length c0_2,.slice A0_3 l0_3.length c0_3] 30 (0,0)) z32_4 hb);clear hb hbox hg;have hnb9:=NB706_707.out;have hnc9:=NB707_706.out;obtain ⟨hcz10_0,hcz10_1,hcz10_2,hcz10_3,hfz10_0,hfz10_1,hfz10_2,hfz10_3⟩:=cz4_ BK706.out)|(go_at_call 82;(with_reducible refine(r03_Sum.calls k _ _ l0_2 t708 _ ?side1 ?side2 A3.out).mono ?_);(case side1=>exact z3_11);(case side2=>exact HC0_2.out);rintro e w' ⟨rfl,⟨nd,rfl⟩⟩;(try first|exact ⟨rfl,_,World.drewN_drewN _ _ _⟩|exact ⟨rfl,_,Eq.trans (World.drewN_drewN _ _ _) (congrArg (World.drewN _) (Nat.add_assoc _ _ _))⟩);obtain ⟨hcz11_0,hcz11_1,hcz11_2,hcz11_3,hfz11_0,hfz11_1,hfz11_2,hfz11_3⟩:=cz4_ BK707.out)|(go_at_call 82;(with_reducible refine(r03_Sum.calls k _ _ l1_2 t709 _ ?side1 ?side2 A4.out).mono ?_);(case side1=>exact z32_12);(case side2=>exact HC1_2.out);rintro e w' ⟨rfl,⟨nd,rfl⟩⟩;(try first|exact ⟨rfl,_,World.drewN_drewN _ _ _⟩|exact ⟨rfl,_,Eq.trans (World.drewN_drewN _ _ _) (congrArg (World.drewN _) (Nat.add_assoc _ _ _))⟩))|(go_at_call 110;(with_reducible refine(r04_Less.calls a0_0 a0_1 a1_0 a1_1 t710 _ A6.out).mono ?_);rintro e w12 ⟨rfl,hb⟩;replace BK706:=Aside0.mk (blk_below (g:=gb706) (o:=.cells #[.int .i64 a0_0,.int .i64 a0_1,.slice A0_2 l0_2.length c0_2,.slice A0_3 l0_3.length c0_3] 30 (0,0)) z32_4 hb);replace BK707:=Aside0.mk (blk_below (g:=gb707) (o:=.cells #[.int .i64 a1_0,.int .i64 a1_1,.slice A1_2 l1_2.length c1_2,.slice A1_3 l1_3.length c1_3] 30 (0,0)) z32_23 hb);replace HB:=Aside0.mk (below_step z32_5 hb);(try clear hb);(try clear hb2);(try clear hk);(try clear hi))))
 go_ret
 exact ⟨z20_1,z32_5⟩
theorem r05_Order.own_some {A:Option Addr} {n c b:Nat} (h:(Value.slice A n c).ownBlock=some b):∃ a,A=some a:=by
 cases A with
 | none=>cases h
 | some a=>exact ⟨a,rfl⟩
open Go.Proofs.Ytgocnchjpecafaa.Hand in
theorem r05_Order.cut_append {α:Type} {d:Kd α} {P:Program} {W:World} {t ty e:TypeId} {z:Value} {bytes base:Nat} {A a:Addr} {j c:Nat} {xs:List α} {x:α} {ok okp:Nat→Prop}
  (ht:P.underlying t=some (.slice e)) (hinfo:(P.info? e).map (fun i=>(i.zero,i.size,i.bytes))=some (some z,d.sz,bytes)) (hz:z.cells.size=d.sz) (hs0:0<d.sz) (hb0:0<bytes)
  (HF:Kd.F d W okp (some A) j xs) (HX:Kd.F d W okp (some a) 1 [x]) (hbase:base≤W.heap.size) (hl:(j+1)*bytes≤140737488355328) (hokp:∀ k,okp k→ok k) (hfresh:∀ k,W.heap.size≤k→ok k) :
  ∃ v' w',(Builtin.append_ #[t,t] ty #[.slice (some A) j j,.slice (some a) 1 c]).run P W = .ok v' w'∧Kd.N d e w' base ok v' (xs++[x])∧Below W.heap.size W w'∧∃ b,v'.ownBlock=some b∧W.heap.size≤b:=by
 obtain ⟨i0,hi,hzz⟩:=Option.map_eq_some_iff.1 hinfo
 simp only [Prod.mk.injEq] at hzz
 obtain ⟨hz0,hz1,hz2⟩:=hzz
 have hjl:j+1≤140737488355328:=Nat.le_trans (Nat.le_mul_of_pos_right _ hb0) hl
 have hxl:xs.length=j:=(Kd.F_now HF).1
 obtain ⟨rows,hrl,hrr,hrf⟩:=Kd.reads_raw (Kd.F_rows HF) (fun y c hk=>⟨d.K_len (Kd.FK_now hk),d.K_one (Kd.FK_now hk)⟩)
 obtain ⟨news,hnl,hnr,hnf⟩:=Kd.reads_raw (Kd.F_rows HX) (fun y c hk=>⟨d.K_len (Kd.FK_now hk),d.K_one (Kd.FK_now hk)⟩)
 obtain ⟨cells,hcr,hcc⟩:=ReadsRow.inner_ hrr
 obtain ⟨ncells,hncr,hncc⟩:=ReadsRow.inner_ hnr
 obtain ⟨v',w',hrun,hown,hg⟩:=run_append_arg_grows (P:=P) W t ty e i0 z d.sz bytes ht hi hz0 hz1 hz2 hz hs0 A j j cells (by rw [hcr.1,hrl,hxl]) hcc a 1 c ncells (by rw [hncr.1,hnl];rfl) hncc (by omega) (by simp only [maxLen];omega) hl
 have hat:∃ b,v'.ownBlock=some b∧W.heap.size≤b:=by
  rcases hown.2 with ⟨_,hn⟩|⟨g,cap,cur,rfl,hle,_⟩
  ·omega
  ·exact ⟨g,rfl,hle⟩
 refine ⟨v',w',hrun,?_,⟨hg.os,hg.tape,hg.output,hg.size,fun k hk=>hg.block k hk (by simp)⟩,hat⟩
 have hR:(Kd.raw d.sz).R e w' base (fun _=>True) v' (rows++news):=⟨fun _ _=>trivial,cells++ncells,(by rw [List.length_append,hrl,hnl,hxl];exact ⟨hown.1,hown.2.imp id (fun ⟨g,cap,cur,h1,h2,h3⟩=>⟨g,cap,cur,h1,Nat.le_trans hbase h2,h3⟩)⟩),Kd.reps_append hcr hncr⟩
 exact Kd.N_appended (W:=W) (v:=.slice none 0 0) (ok:=ok) (okp:=okp) (fun k hk=>by cases hk) hrl (fun q y cs hy hc=>Kd.FK_mono (hrf q y cs hy hc) (fun k hk=>⟨hokp k hk,fun h=>by cases h⟩)) hnl hnf (fun k hk=>⟨hokp k hk,fun h=>by cases h⟩) hfresh hR hg (.inr hat)
theorem r05_Order.lit1_FK {α:Type} {d:Kd α} {x:α} {cs:Array Value} {ok:Nat→Prop} (W:World) (e:Nat) (hk:Kd.FK d W ok x cs.toList):Kd.F d (W.alloc (.cells cs e)) (fun j=>ok j∨j=W.heap.size) (some ⟨W.heap.size,0,none⟩) 1 [x]:=by
 intro W' hW
 have hb:W'.heap[W.heap.size]? = some (.cells cs e (0,0)):=(hW _ (.inr rfl) (by simp)).trans (heap_alloc_new W _)
 have hK:d.K W' x cs.toList:=hk W' (fun k ho hlt=>(hW k (.inl ho) (Nat.lt_trans hlt (by simp))).trans (heap_alloc_old W _ hlt))
 refine ⟨rfl,(by simp),fun _=>⟨_,rfl,fun j p hj=>?_⟩⟩
 rcases j with _|j
 ·simp only [List.getElem?_cons_zero,Option.some.injEq] at hj
  subst hj
  refine ⟨cs.toList,d.K_len hk.now,hK,fun i u hu=>?_⟩
  rw [Nat.zero_mul,Nat.zero_add,add_plain]
  rw [blk_cell hb]
  simpa using hu
 ·simp at hj
def r05_Order.l1:Nat→S30→List S30→Int→Option Int
 | 0,_,_,_=>none
 | k+1,x,out,j=>if 0<j then((r05_less.f k x.f0.f0 x.f0.f1 x.f1 x.f2 (rd_T30 out (wrap64 (j - 1))).f0.f0 (rd_T30 out (wrap64 (j - 1))).f0.f1 (rd_T30 out (wrap64 (j - 1))).f1 (rd_T30 out (wrap64 (j - 1))).f2).bind fun t=>if t=true then r05_Order.l1 k x out (wrap64 (j - 1)) else some j) else some j
def r05_Order.l0:Nat→List S30→List S30→Int→Option (List S30)
 | 0,_,_,_=>none
 | k+1,l,out,i=>if i<(l.length:Int) then(if 0≤i then((r05_Order.l1 k (rd_T30 l i) out (out.length:Int)).bind fun j=>if out.length+1<2199023255552 then r05_Order.l0 k l ((out.take j.toNat++[rd_T30 l i])++out.drop j.toNat) (wrap64 (i+1)) else none) else none) else some out
def r05_Order.f (k:Nat) (l:List S30):Option (List S30):=r05_Order.l0 k l [] 0
open Go.Proofs.Ytgocnchjpecafaa.Cards Go.Proofs.Ytgocnchjpecafaa.Hand in
theorem r05_Order.calls (k:Nat) (P0_:Nat→Prop) (A0:Option Addr) (c0:Nat) (l0:List S30) (r:List S30) (w:World) (hs0:Kd.V k30 30 w w.heap.size (fun k_=>P0_ k_) (.slice A0 l0.length c0) l0) (h:r05_Order.f k l0=some r) :
  Calls Try.prog 84 #[.slice A0 l0.length c0] w fun e w'=>∃ v0_:Value,e = .returned (v0_)∧Kd.N k30 30 w' w.heap.size (fun k_=>(P0_ k_∨w.heap.size≤k_)) v0_ r∧Below w.heap.size w w':=by
 have hu30:=Try.underlying30
 have hu25:=Try.underlying25
 have H:=Aside0.mk h
 have HC0:=Aside0.mk (Kd.V_reads' hs0).2.1
 have HV1:=Aside0.mk (Kd.F_bound (Kd.V_F hs0))
 have HB:=Aside0.mk (Below.refl w.heap.size w)
 clear h hs0
 obtain ⟨i030,hi30,_,hsz30,_⟩:=info_parts info30
 go_enter Try.func84,Try.ntmps84
 go_upto_region 2 with (first|((with_reducible refine gate_dst (N:=7) rfl ?_);refine Kd.N_lit k30 _ 30 ?hg (N':=7) ?hd (xs:=([]:List S30)) (inner:=[]) (ok:=(fun k_=>(P0_ k_∨w.heap.size≤k_))) (okp:=fun _=>False) ?hr ?hp (fun _ hk=>hk.elim) (.inr (Nat.le_refl _)) (Below.refl _ _) (Nat.le_refl _) (by simp) ?_;(case hd=>rfl);(case hg=>rfl);(case hr=>exact z10_10);(case hp=>exact Reps.none _ _);intro v7 w7 ho7 hb hg_ hnew_;clear hg_;replace HB:=Aside0.mk (below_step z20_4 hb);replace HV1:=Aside0.mk (Kd.F_below (by(with_reducible repeat(first|refine Kd.F_alloc ?_ _|refine Kd.F_drew ?_));exact HV1.out) hb);clear hb;obtain ⟨A7,c7,e7⟩:=Kd.N_slice ho7;subst e7;have HN1:=Aside0.mk ho7;obtain ⟨b7,hb7,_⟩:=hnew_;obtain ⟨a7,ea7⟩:=r05_Order.own_some hb7;subst ea7;clear ho7 hb7))
 go_upto_region 3 with (fail)
 go_loopg [3,4] k (fun kq v3 v4 wr=>∃ (acc:List S30) (i:Int) (a:Addr) (c:Nat),v4 = .int .i64 i∧v3 = .slice (some a) acc.length c∧Aside0 (r05_Order.l0 kq l0 acc i=some r)∧Aside0 (kq≤k)∧Aside0 (Kd.N k30 30 wr w.heap.size (fun k_=>(P0_ k_∨w.heap.size≤k_)) (.slice (some a) acc.length c) acc)∧Aside0 (Kd.F k30 wr (fun k_=>P0_ k_∧k_<w.heap.size) A0 l0.length l0)∧Aside0 (Below w.heap.size w wr))
 case atStart=>exact ⟨[],0,a7,c7,rfl,rfl,H,⟨Nat.le_refl _⟩,HN1,HV1,HB⟩
 case round =>
 clear H HN1 HV1 HB
 obtain ⟨acc,i,a3,c3,rfl,rfl,HA,HK,HO,HV,HB⟩:=hrel
 cases gk with
 | zero=>exact absurd HA.out (by simp [r05_Order.l0])
 | succ k1 =>
 have HQ:=HA.out
 clear HA
 simp only [r05_Order.l0] at HQ
 by_cases ci:i<(l0.length:Int)
 case neg =>
  rw [if_neg ci] at HQ
  obtain rfl:=Option.some.inj HQ
  have ci1:decide (i<(l0.length:Int))=false:=decide_eq_false ci
  clear ci
  go_wp2
  go_ret
  exact ⟨_,rfl,HO.out,HB.out⟩
 rw [if_pos ci] at HQ
 by_cases c0_:0≤i
 case neg =>
  rw [if_neg c0_] at HQ
  exact absurd HQ (by simp)
 rw [if_pos c0_] at HQ
 replace HQ:=Option.bind_eq_some_iff.mp HQ
 obtain ⟨jr,h1,HQ⟩:=HQ
 by_cases cl:acc.length+1<2199023255552
 case neg =>
  rw [if_neg cl] at HQ
  exact absurd HQ (by simp)
 rw [if_pos cl] at HQ
 have CL:=Aside0.mk cl
 have HJ:=Aside0.mk h1
 have HQ1:=Aside0.mk HQ
 clear h1 HQ cl
 obtain ⟨x,hx⟩:∃ x,x=rd_T30 l0 i:=⟨_,rfl⟩
 rw [←hx] at HJ HQ1
 have HX:=Aside0.mk hx
 have ci1:decide (i<(l0.length:Int))=true:=decide_eq_true ci
 have ci2:(i<(l0.length:Int))=True:=eq_true ci
 have c01:(0≤i)=True:=eq_true c0_
 have CI:=Aside0.mk (show 0≤i∧i<(l0.length:Int) from ⟨c0_,ci⟩)
 clear hx ci c0_
 have J1:=Aside0.mk (show 0≤(acc.length:Int)∧(acc.length:Int)≤(acc.length:Int) by omega)
 go_upto_region 6 with (fail)
 go_loopg [5] k1 (fun mq v5 wr=>∃ (j:Int),v5 = .int .i64 j∧Aside0 (r05_Order.l1 mq x acc j=some jr)∧Aside0 (mq≤k1)∧Aside0 (0≤j∧j≤(acc.length:Int))∧Aside0 (Kd.N k30 30 wr w.heap.size (fun k_=>(P0_ k_∨w.heap.size≤k_)) (.slice (some a3) acc.length c3) acc)∧Aside0 (Kd.F k30 wr (fun k_=>P0_ k_∧k_<w.heap.size) A0 l0.length l0)∧Aside0 (Below w.heap.size w wr))
 case atStart=>exact ⟨_,rfl,HJ,⟨Nat.le_refl _⟩,J1,HO,HV,HB⟩
 case round =>
 clear HJ J1 HO HV HB
 obtain ⟨j,rfl,HA,HM,HI,HO,HV,HB⟩:=hrel
 cases gk with
 | zero=>exact absurd HA.out (by simp [r05_Order.l1])
 | succ m1 =>
 have HJ:=HA.out
 clear HA
 simp only [r05_Order.l1] at HJ
 obtain ⟨ad,A2,c2,A3,c3',e_,f0,f1,f2,f3,m2,o2,m3,o3⟩:=at_T30 (Kd.F_now HV.out) i CI.out.1 CI.out.2
 cases e_
 rw [←HX.out] at f0 f1 f2 f3 m2 o2 m3 o3
 have K2:=Aside0.mk m2;have G2:=Aside0.mk o2;have K3:=Aside0.mk m3;have G3:=Aside0.mk o3
 clear m2 o2 m3 o3
 by_cases cj:0<j
 case neg =>
  rw [if_neg cj] at HJ
  obtain rfl:=Option.some.inj HJ
  have cj1:decide (0<j)=false:=decide_eq_false cj
  have cj2:decide (j > 0)=false:=decide_eq_false cj
  clear cj HJ
  clear f0 f1 f2 f3 G2 G3 K2 K3
  go_upto_region 6 with (fail)
  refine wp_region_quiet_below z3_17 z3_17 ?_
  repeat(go_big_quiet_step (fail))
  refine wpQuiet_nil ?_
  intro _ hw'
  obtain ⟨⟨dq,osq⟩,hw''⟩:=hw'
  subst hw''
  have n1:=Aside0.mk (below_step HB.out (below_regrown wr dq osq));have n2:=Aside0.mk (Kd.N_below HO.out (below_regrown wr dq osq));have n3:=Aside0.mk (Kd.F_below HV.out (below_regrown wr dq osq));clear HB HO HV;generalize Sort.grow (redrawn wr dq) osq=w3 at n1 n2 n3 ⊢;have HB:=n1;have HO:=n2;have HV:=n3;clear n1 n2 n3
  have HI8:=HI.out
  obtain ⟨Y,hY⟩:∃ Y:List S30,Y=acc.drop j.toNat:=⟨_,rfl⟩
  obtain ⟨Z,hZ⟩:∃ Z:List S30,Z=acc.take j.toNat++[x]:=⟨_,rfl⟩
  have YL:=Aside0.mk (show Y.length≤acc.length by rw [hY,List.length_drop];omega)
  have ZL:=Aside0.mk (show Z.length+Y.length=acc.length+1 by rw [hY,hZ,List.length_append,List.length_drop,List.length_take,List.length_singleton];omega)
  have HQ2:=Aside0.mk (show r05_Order.l0 k1 l0 (Z++Y) (wrap64 (i+1))=some r by rw [hY,hZ];exact HQ1.out)
  obtain ⟨B8,hB8⟩:∃ B8,B8=w3.heap.size:=⟨_,rfl⟩
  obtain ⟨A35,c35,hcut35,hF35⟩:∃ A35 c35,(∀ W,(Instr.slice 38 (.slice (some a3) acc.length c3) (some (.int .i64 j)) none none).run Try.prog W = .ok (.slice A35 Y.length c35) W)∧Kd.F k30 w3 (fun k_=>(P0_ k_∨w.heap.size≤k_)∧k_<B8) A35 Y.length Y:=by
   refine ⟨if c3=j.toNat then some a3 else(some a3).map (·.add (j.toNat*4)),c3 - j.toNat,fun W=>?_,z32_26⟩
   rw [hY,List.length_drop]
   exact cut_from 38 30 .i64 Try.underlying38 hi30 4 hsz30 (some a3) acc.length c3 j (by omega) (by omega) W
  have hcut40:∀ W,(Instr.slice 38 (.slice (some a3) acc.length c3) none (some (.int .i64 j)) (some (.int .i64 j))).run Try.prog W = .ok (.slice (some a3) j.toNat j.toNat) W:=by
   intro W
   have hc3:=(Kd.N_reads' HO.out).2.1
   have hel:Try.prog.elem 38=30:=by simp [Program.elem,Try.underlying38]
   have hu:Try.prog.underlying 38=some (.slice (Try.prog.elem 38)):=by rw [hel];exact Try.underlying38
   rw [run_slice_hm W 38 (some a3) acc.length c3 hu .i64 .i64 j j (by omega) (Int.le_refl _) (by omega),hel]
   simp [sizeOf,typeInfo,hi30,hsz30,sliced,Result.andThen,Addr.add]
  have HC40:=Aside0.mk hcut40
  have HF35:=Aside0.mk hF35
  have HO8:=Aside0.mk (show Kd.N k30 30 w3 w.heap.size (fun k_=>(P0_ k_∨w.heap.size≤k_)∧k_<B8) (.slice (some a3) acc.length c3) acc by rw [hB8];exact Kd.N_bound HO.out)
  have LB8:=Aside0.mk (Nat.le_of_eq hB8)
  have WB8:=Aside0.mk (show w.heap.size≤B8 by rw [hB8];exact below_size HB.out)
  have NZ:=Aside0.mk hZ
  clear HO hF35 hcut40 HI8 hB8 hY hZ HQ1
  go_upto_region 9 with (first|((with_reducible refine gate_dst (N:=32) rfl ?_);refine Kd.N_lit k30 _ 30 ?hg (N':=32) ?hd (xs:=([]:List S30)) (inner:=[]) (ok:=(fun k_=>(P0_ k_∨w.heap.size≤k_))) (okp:=fun _=>False) ?hr ?hp (fun _ hk=>hk.elim) (.inr (below_size HB.out)) HB.out (below_size HB.out) (by simp) ?_;(case hd=>rfl);(case hg=>rfl);(case hr=>exact z10_10);(case hp=>exact Reps.none _ _);intro v32 w32 ho hb hg hn;have hbb:Below w3.heap.size w3 w32:=⟨hg.os,hg.tape,hg.output,hg.size,fun k hk=>hg.block k hk (by simp)⟩;have n2:=Aside0.mk (Kd.F_below HV.out hbb);have n3:=Aside0.mk (Kd.F_below HF35.out hbb);have n4:=Aside0.mk (Kd.N_below HO8.out hbb);have n5:=Aside0.mk (Nat.le_trans LB8.out hbb.size);have n6:=Aside0.mk (show ∃ b,v32.ownBlock=some b∧B8≤b by obtain ⟨b,h1,h2⟩:=hn;exact ⟨b,h1,Nat.le_trans LB8.out h2⟩);clear HB HV HF35 HO8 LB8 hn hg hbb;have HB:=Aside0.mk hb;have HV:=n2;have HF35:=n3;have HO8:=n4;have LB8:=n5;have HN32:=Aside0.mk ho;clear hb n2 n3 n4 n5;obtain ⟨A32,c32,e32⟩:=Kd.N_slice ho;subst e32;have NB:=n6;clear n6 ho)|((with_reducible refine gate_builtin (b:=.append) (xs:=#[.tmp 32,.tmp 35]) rfl ?_);at_builtin;refine Kd.N_append_rows k30 (w0:=w) w.heap.size rfl (.tmp 32) (.tmp 35) 38 30 (.agg #[(.int .i64 0),(.int .i64 0),(.slice none 0 0),(.slice none 0 0)]) 64 rfl Try.underlying38 info30 rfl (by decide) (by decide) (.slice A32 ([]:List S30).length c32) [] Y A35 Y.length c35 (fun k_=>(P0_ k_∨w.heap.size≤k_)) (fun k_=>(P0_ k_∨w.heap.size≤k_)∧k_<B8) rfl rfl HN32.out HF35.out (fun k_ hk=>⟨hk.1,fun he=>by obtain ⟨b,h1,h2⟩:=NB.out;rw [h1] at he;injection he with he;have:=hk.2;omega⟩) (fun k_ hk=>.inr (Nat.le_trans (below_size HB.out) hk)) HB.out (below_size HB.out) (by have:=CL.out;have:=YL.out;simp only [List.length_nil];omega) ?_;intro v36 w36 ho hb hg hat;have n2:=Aside0.mk (Kd.F_grown HV.out hg (fun k_ hk he=>by obtain ⟨b,h1,h2⟩:=NB.out;rw [h1] at he;injection he with he;have:=hk.2;have:=WB8.out;omega));have n4:=Aside0.mk (Kd.N_grown HO8.out hg (fun k_ hk he=>by obtain ⟨b,h1,h2⟩:=NB.out;rw [h1] at he;injection he with he;have:=hk.2;omega));have n5:=Aside0.mk (Nat.le_trans LB8.out hg.size);clear HB HV HF35 HO8 LB8 hg hat NB HN32;have HB:=Aside0.mk hb;have HV:=n2;have HO8:=n4;have LB8:=n5;rw [List.nil_append] at ho;have HR8:=Aside0.mk ho;clear hb n2 n4 n5;obtain ⟨A36,c36,e36⟩:=Kd.N_slice ho;subst e36;clear ho))
  clear hcut35
  obtain ⟨ad',cx,ead,hcl,hFK,hcc,_⟩:=Kd.F_get HV.out z30 i CI.out.1 CI.out.2
  cases ead
  rw [show l0.getD i.toNat z30=x from HX.out.symm] at hFK
  obtain ⟨X2,d2,X3,d3,rfl,l2,g2,l3,g3⟩:=k30_openF hFK
  have hx0:=hcc 0 _ rfl;have hx1:=hcc 1 _ rfl;have hx2:=hcc 2 _ rfl;have hx3:=hcc 3 _ rfl
  rw [Nat.add_zero] at hx0;rw [add_field _ _ 1 (by omega)] at hx1;rw [add_field _ _ 2 (by omega)] at hx2;rw [add_field _ _ 3 (by omega)] at hx3
  have NX:=Aside0.mk (And.intro l2 l3)
  have ha0:(0:Nat)<Z.length:=by rw [NZ.out];simp
  obtain ⟨B9,hB9⟩:∃ B9,B9=w36.heap.size:=⟨_,rfl⟩
  have HT9:=Aside0.mk (show Kd.F k30 w36 (fun k_=>(P0_ k_∨w.heap.size≤k_)∧k_<B9) (some a3) j.toNat (acc.take j.toNat) by
   have h1:=Kd.F_take (m:=j.toNat) (Kd.F_mono (Kd.F_bound (Kd.N_F HO8.out)) (ok':=fun k_=>(P0_ k_∨w.heap.size≤k_)∧k_<B9) (fun k_ hk=>⟨hk.1.1,(by rw [hB9];exact hk.2)⟩)) (by have:=HI.out;omega)
   rw [List.length_take,Nat.min_eq_left (by have:=HI.out;omega)] at h1
   exact h1)
  have HR9:=Aside0.mk (show Kd.N k30 30 w36 w.heap.size (fun k_=>(P0_ k_∨w.heap.size≤k_)∧k_<B9) (.slice A36 Y.length c36) Y by rw [hB9];exact Kd.N_bound HR8.out)
  have LB9:=Aside0.mk (Nat.le_of_eq hB9)
  have WB9:=Aside0.mk (show w.heap.size≤B9 by rw [hB9];exact below_size HB.out)
  have PX:=Aside0.mk (k30_mkF w36 (fun k_=>P0_ k_∧k_<w.heap.size) x l2 g2 l3 g3)
  clear HO8 HR8 LB8 WB8 hB9 hFK hcc hcl g2 g3 l2 l3 ha0
  refine region_cards (F:=?F91) 11 (fun w'=>Aside0 (Below w.heap.size w w')∧Aside0 (Kd.F k30 w' (fun k_=>P0_ k_∧k_<w.heap.size) (some ad) l0.length l0)∧Aside0 (Kd.F k30 w' (fun k_=>(P0_ k_∨w.heap.size≤k_)∧k_<B9) (some a3) j.toNat (acc.take j.toNat))∧Aside0 (Kd.N k30 30 w' w.heap.size (fun k_=>(P0_ k_∨w.heap.size≤k_)∧k_<B9) (.slice A36 Y.length c36) Y)∧Aside0 (B9≤w'.heap.size)∧Aside0 (Kd.FK k30 w' (fun k_=>P0_ k_∧k_<w.heap.size) x [.int .i64 x.f0.f0,.int .i64 x.f0.f1,.slice X2 x.f1.length d2,.slice X3 x.f2.length d3])∧w'.cell? (ad.add (i.toNat*4))=some (.int .i64 x.f0.f0)∧w'.cell? ⟨(ad.add (i.toNat*4)).block,(ad.add (i.toNat*4)).off+1,none⟩=some (.int .i64 x.f0.f1)∧w'.cell? ⟨(ad.add (i.toNat*4)).block,(ad.add (i.toNat*4)).off+2,none⟩=some (.slice X2 x.f1.length d2)∧w'.cell? ⟨(ad.add (i.toNat*4)).block,(ad.add (i.toNat*4)).off+3,none⟩=some (.slice X3 x.f2.length d3))
   [fun v _ _ _=>v = .slice (some a3) acc.length c3,
   fun v _ _ _=>v = .int .i64 j,
   fun v _ _ _=>v = .int .i64 j,
   fun v _ _ _=>v = .slice (some a3) j.toNat j.toNat,
   fun v _ _ _=>v = .slice (some ad) l0.length c0,
   fun v _ _ _=>v = .int .i64 i,
   fun v _ _ _=>v = .pointer (some (ad.add (i.toNat*4))),
   fun v _ _ _=>v = .agg #[.int .i64 x.f0.f0,.int .i64 x.f0.f1,.slice X2 x.f1.length d2,.slice X3 x.f2.length d3],
   fun v_ w' lo hi=>∃ a,v_ = .slice (some a) 1 1∧Kd.F k30 w' (fun k_=>(P0_ k_∧k_<w.heap.size)∨B9≤k_) (some a) 1 [x],
   fun v_ w' lo hi=>Kd.N k30 30 w' w.heap.size (fun k_=>P0_ k_∨w.heap.size≤k_) v_ Z∧∃ b,v_.ownBlock=some b∧B9≤b,
   fun v _ _ _=>v = .slice A36 Y.length c36]
   z3_17 z3_17 ?hF91 ?hS091 ?hS91 ?hstay91 ?hsteps91 ?hend91
  case hF91 =>
   intro vs
   simp only [List.take_succ_cons,List.take_zero,fill,if_true,if_false,Act.put,List.setIfInBounds_toArray,List.set_cons_zero,List.set_cons_succ,Nat.reduceAdd,List.contains_cons,List.contains_nil,Nat.reduceBEq,Bool.or_false,Bool.false_or,Bool.not_true,Bool.not_false,Bool.false_eq_true,Bool.or_self,Bool.true_or]
   rfl
  case hS091=>exact ⟨⟨below_drew HB.out⟩,⟨Kd.F_drew HV.out⟩,⟨Kd.F_drew HT9.out⟩,⟨Kd.N_drew HR9.out⟩,LB9,⟨Kd.FK_below PX.out (below_drew (Below.refl _ _))⟩,pw_cell_below (below_drew (Below.refl _ _)) hx0,pw_cell_below (below_drew (Below.refl _ _)) hx1,pw_cell_below (below_drew (Below.refl _ _)) hx2,pw_cell_below (below_drew (Below.refl _ _)) hx3⟩
  case hS91=>exact fun w1 w2 hb hs=>⟨⟨below_step hs.1.out hb⟩,⟨Kd.F_below hs.2.1.out hb⟩,⟨Kd.F_below hs.2.2.1.out hb⟩,⟨Kd.N_below hs.2.2.2.1.out hb⟩,⟨Nat.le_trans hs.2.2.2.2.1.out hb.size⟩,⟨Kd.FK_below hs.2.2.2.2.2.1.out hb⟩,pw_cell_below hb hs.2.2.2.2.2.2.1,pw_cell_below hb hs.2.2.2.2.2.2.2.1,pw_cell_below hb hs.2.2.2.2.2.2.2.2.1,pw_cell_below hb hs.2.2.2.2.2.2.2.2.2⟩
  case hstay91=>exact ⟨fun _ _ _ _ _ _ h=>h,fun _ _ _ _ _ _ h=>h,fun _ _ _ _ _ _ h=>h,fun _ _ _ _ _ _ h=>h,fun _ _ _ _ _ _ h=>h,fun _ _ _ _ _ _ h=>h,fun _ _ _ _ _ _ h=>h,fun _ _ _ _ _ _ h=>h,fun _ _ _ _ _ hb h=>by obtain ⟨a,h1,h2⟩:=h;exact ⟨a,h1,Kd.F_below h2 hb⟩,fun _ _ _ _ _ hb h=>⟨Kd.N_below h.1 hb,h.2⟩,fun _ _ _ _ _ _ h=>h,trivial⟩
  case hsteps91 =>
   refine ⟨?s91_0,?s91_1,?s91_2,?s91_3,?s91_4,?s91_5,?s91_6,?s91_7,?s91_8,?s91_9,?s91_10,trivial⟩
   case s91_0 =>
    intro _ vs lo hi W hs hp
    exact does_val z10_10 ⟨rfl,Below.refl _ _⟩
   case s91_1 =>
    intro _ vs lo hi W hs hp
    exact does_val z10_10 ⟨rfl,Below.refl _ _⟩
   case s91_2 =>
    intro _ vs lo hi W hs hp
    exact does_val z10_10 ⟨rfl,Below.refl _ _⟩
   case s91_3 =>
    intro _ vs lo hi W hs hp
    have e0:vs 0 = .slice (some a3) acc.length c3:=hp 0 z3_17 rfl
    have e1:vs 1 = .int .i64 j:=hp 1 z3_17 rfl
    have e2:vs 2 = .int .i64 j:=hp 2 z3_17 rfl
    have hc_:=HC40.out
    exact does_val z10_10 ⟨rfl,Below.refl _ _⟩
   case s91_4 =>
    intro _ vs lo hi W hs hp
    exact does_val z10_10 ⟨rfl,Below.refl _ _⟩
   case s91_5 =>
    intro _ vs lo hi W hs hp
    exact does_val z10_10 ⟨rfl,Below.refl _ _⟩
   case s91_6 =>
    intro _ vs lo hi W hs hp
    have e4:vs 4 = .slice (some ad) l0.length c0:=hp 4 z3_17 rfl
    have e5:vs 5 = .int .i64 i:=hp 5 z3_17 rfl
    exact does_val z10_10 ⟨rfl,Below.refl _ _⟩
   case s91_7 =>
    intro _ vs lo hi W hs hp
    have e6:vs 6 = .pointer (some (ad.add (i.toNat*4))):=hp 6 z3_17 rfl
    obtain ⟨y0,y1,y2,y3⟩:=hs.2.2.2.2.2.2
    exact does_val z10_10 ⟨rfl,Below.refl _ _⟩
   case s91_8 =>
    intro _ vs lo hi W hs hp
    have e7:vs 7 = .agg #[.int .i64 x.f0.f0,.int .i64 x.f0.f1,.slice X2 x.f1.length d2,.slice X3 x.f2.length d3]:=hp 7 z3_17 rfl
    exact does_val (v:=.slice (some ⟨W.heap.size,0,none⟩) 1 1) (w1:=W.alloc (.cells #[.int .i64 x.f0.f0,.int .i64 x.f0.f1,.slice X2 x.f1.length d2,.slice X3 x.f2.length d3] 30)) z10_10 ⟨⟨_,rfl,Kd.F_mono (r05_Order.lit1_FK W 30 hs.2.2.2.2.2.1.out) (fun k_ hk=>by rcases hk with hk|hk;exact .inl hk;exact .inr (hk ▸ hs.2.2.2.2.1.out))⟩,below_alloc (Below.refl _ _) _⟩
   case s91_9 =>
    intro _ vs lo hi W hs hp
    have e3:vs 3 = .slice (some a3) j.toNat j.toNat:=hp 3 z3_17 rfl
    obtain ⟨a_,e8,hF8⟩:∃ a,vs 8 = .slice (some a) 1 1∧Kd.F k30 W (fun k_=>(P0_ k_∧k_<w.heap.size)∨B9≤k_) (some a) 1 [x]:=hp 8 z3_17 rfl
    obtain ⟨v_,w_,hrun,hN,hb_,b_,hb1,hb2⟩:=r05_Order.cut_append (P:=Try.prog) (W:=W) (d:=k30) (t:=38) (ty:=38) (e:=30) (z:=.agg #[(.int .i64 0),(.int .i64 0),(.slice none 0 0),(.slice none 0 0)]) (bytes:=64) (base:=w.heap.size) (A:=a3) (a:=a_) (j:=j.toNat) (c:=1) (xs:=acc.take j.toNat) (x:=x) (ok:=fun k_=>P0_ k_∨w.heap.size≤k_) (okp:=fun k_=>P0_ k_∨w.heap.size≤k_) Try.underlying38 info30 rfl (by decide) (by decide) (Kd.F_mono hs.2.2.1.out (fun _ hk=>hk.1)) (Kd.F_mono hF8 (fun k_ hk=>by rcases hk with hk|hk;exact .inl hk.1;exact .inr (Nat.le_trans WB9.out hk))) (below_size hs.1.out) (by have:=CL.out;have:=HI.out;omega) (fun _ hk=>hk) (fun k_ hk=>.inr (Nat.le_trans (below_size hs.1.out) hk))
    refine does_val (v:=v_) (w1:=w_) ?_ ⟨⟨(by rw [NZ.out];exact hN),b_,hb1,Nat.le_trans hs.2.2.2.2.1.out hb2⟩,hb_⟩
    have go_:∀ {ρ:Operand→Value} {o:Oper} {v w':_},ρ (.tmp 40) = .slice (some a3) j.toNat j.toNat→ρ (.tmp 45) = .slice (some a_) 1 1→o.op = .call { callee:=.builtin .append,args:=#[.tmp 40,.tmp 45],argTypes:=#[38,38] }→(Builtin.append_ #[38,38] o.type #[.slice (some a3) j.toNat j.toNat,.slice (some a_) 1 1]).run Try.prog W = .ok v w'→(execOp ρ o).run Try.prog W = .ok (.value v) w':=by
     intro ρ o v w' h1 h2 h3 h4
     unfold execOp
     simp only [h3,resolve,invoke,builtin,Sem.run_bind,Sem.run_pure,Result.andThen_ok,List.map_toArray,List.map_cons,List.map_nil,h1,h2,h4]
    exact go_ e3 e8 rfl hrun
   case s91_10 =>
    intro _ vs lo hi W hs hp
    exact does_val z10_10 ⟨rfl,Below.refl _ _⟩
  case hend91 =>
  intro vs lo hi W hs hp _
  simp only [List.drop_succ_cons,List.drop_zero]
  have e10:vs 10 = .slice A36 Y.length c36:=hp 10 (by decide)
  obtain ⟨hN9,hO9⟩:Kd.N k30 30 W w.heap.size (fun k_=>P0_ k_∨w.heap.size≤k_) (vs 9) Z∧∃ b,(vs 9).ownBlock=some b∧B9≤b:=hp 9 (by decide)
  obtain ⟨A46,c46,e46⟩:=Kd.N_slice hN9
  rw [e46] at hN9 hO9
  rw [e10,e46]
  clear hp e10 e46 HB HV HT9 HR9 LB9 PX hx0 hx1 hx2 hx3
  obtain ⟨HB,HV,HT9,HR9,LB9,_⟩:=hs
  have HN:=Aside0.mk hN9
  have NB:=Aside0.mk hO9
  clear hN9 hO9
  go_wp2_with (first|((with_reducible refine gate_builtin (b:=.append) (xs:=#[.tmp 46,.tmp 47]) rfl ?_);at_builtin;refine Kd.N_append_rows k30 (w0:=w) w.heap.size rfl (.tmp 46) (.tmp 47) 38 30 (.agg #[(.int .i64 0),(.int .i64 0),(.slice none 0 0),(.slice none 0 0)]) 64 rfl Try.underlying38 info30 rfl (by decide) (by decide) (.slice A46 Z.length c46) Z Y A36 Y.length c36 (fun k_=>(P0_ k_∨w.heap.size≤k_)) (fun k_=>(P0_ k_∨w.heap.size≤k_)∧k_<B9) rfl rfl HN.out (Kd.N_F HR9.out) (fun k_ hk=>⟨hk.1,fun he=>by obtain ⟨b,h1,h2⟩:=NB.out;rw [h1] at he;injection he with he;have:=hk.2;omega⟩) (fun k_ hk=>.inr (Nat.le_trans (below_size HB.out) hk)) HB.out (below_size HB.out) (by have:=CL.out;have:=ZL.out;omega) ?_;intro v48 w48 ho hb hg hat;have n2:=Aside0.mk (Kd.F_grown HV.out hg (fun k_ hk he=>by obtain ⟨b,h1,h2⟩:=NB.out;rw [h1] at he;injection he with he;have:=hk.2;have:=WB9.out;omega));have n3:=Aside0.mk (show ∃ b,v48.ownBlock=some b from hat.elim (fun hat=>NB.out.elim fun b h1=>⟨b,hat.trans h1.1⟩) (fun h=>h.elim fun b h1=>⟨b,h1.1⟩));clear HB HV HT9 HR9 LB9 hg hat NB HN;have HB:=Aside0.mk hb;have HV:=n2;have HN:=Aside0.mk ho;clear hb n2;obtain ⟨A48,c48,e48⟩:=Kd.N_slice ho;subst e48;clear ho))
  obtain ⟨b48,hb48⟩:=n3.out
  obtain ⟨a48,ea48⟩:=r05_Order.own_some hb48
  subst ea48
  go_roundg k1
  case measure=>have:=HK.out;omega
  case rel=>exact ⟨Z++Y,wrap64 (i+1),a48,c48,rfl,(by rw [List.length_append]),HQ2,⟨(by have:=HK.out;omega)⟩,HN,HV,HB⟩
 rw [if_pos cj] at HJ
 replace HJ:=Option.bind_eq_some_iff.mp HJ
 obtain ⟨t,h1,HJ⟩:=HJ
 have cj1:decide (0<j)=true:=decide_eq_true cj
 have cj2:decide (j > 0)=true:=decide_eq_true cj
 have hwj:wrap64 (j - 1)=j - 1:=by have h1:=HI.out;have h2:=CL.out;unfold wrap64;omega
 have d01:(0≤wrap64 (j - 1))=True:=eq_true (by rw [hwj];omega)
 have d02:(wrap64 (j - 1)<(acc.length:Int))=True:=eq_true (by rw [hwj];have:=HI.out;omega)
 have HI2:=Aside0.mk (show 0≤wrap64 (j - 1)∧wrap64 (j - 1)≤(acc.length:Int) by rw [hwj];have:=HI.out;omega)
 obtain ⟨ad4,A4,c4,A5,c5,e_,g0,g1,g2,g3,m4,o4,m5,o5⟩:=at_T30 (Kd.N_reads' HO.out).2.2 (wrap64 (j - 1)) (by rw [hwj];omega) (by rw [hwj];have:=HI.out;omega)
 obtain rfl:a3=ad4:=by injection e_
 generalize rd_T30 acc (wrap64 (j - 1))=y at h1 g0 g1 g2 g3 m4 o4 m5 o5
 have K4:=Aside0.mk m4;have G4:=Aside0.mk o4;have K5:=Aside0.mk m5;have G5:=Aside0.mk o5
 have H1:=Aside0.mk h1
 have HJ1:=Aside0.mk HJ
 clear m4 o4 m5 o5 h1 HJ cj e_ hwj
 go_upto_region 6 with (fail)
 have q0:=cell_regrown f0;have q1:=cell_regrown f1;have q2:=cell_regrown f2;have q3:=cell_regrown f3
 have q4:=cell_regrown g0;have q5:=cell_regrown g1;have q6:=cell_regrown g2;have q7:=cell_regrown g3
 have cC:∀ d os,Calls Try.prog 103 #[.agg #[.int .i64 x.f0.f0,.int .i64 x.f0.f1,.slice A2 x.f1.length c2,.slice A3 x.f2.length c3'],.agg #[.int .i64 y.f0.f0,.int .i64 y.f0.f1,.slice A4 y.f1.length c4,.slice A5 y.f2.length c5]] (Sort.grow (redrawn wr d) os) fun e w''=>e = .returned (.bool t)∧∃ p_:Regrown,w''=Sort.grow (redrawn wr p_.d) p_.os:=fun d os=>Calls.regrown_of (r05_less.calls m1 _ _ A2 c2 x.f1 A3 c3' x.f2 _ _ A4 c4 y.f1 A5 c5 y.f2 t _ (Kd.C_below G2.out (below_regrown wr d os)) K2.out (Kd.C_below G3.out (below_regrown wr d os)) K3.out (Kd.C_below G4.out (below_regrown wr d os)) K4.out (Kd.C_below G5.out (below_regrown wr d os)) K5.out H1.out)
 refine wp_region_quiet_below z3_17 z3_17 ?_
 repeat(go_big_quiet_step (with_reducible exact cC _ _))
 refine wpQuiet_nil ?_
 intro _ hw'
 obtain ⟨⟨dq,osq⟩,hw''⟩:=hw'
 subst hw''
 clear f0 f1 f2 f3 g0 g1 g2 g3 q0 q1 q2 q3 q4 q5 q6 q7 cC G2 G3 G4 G5 K2 K3 K4 K5 H1
 have HJ:=HJ1.out
 clear HJ1
 have n1:=Aside0.mk (below_step HB.out (below_regrown wr dq osq));have n2:=Aside0.mk (Kd.N_below HO.out (below_regrown wr dq osq));have n3:=Aside0.mk (Kd.F_below HV.out (below_regrown wr dq osq));clear HB HO HV;generalize Sort.grow (redrawn wr dq) osq=w3 at n1 n2 n3 ⊢;have HB:=n1;have HO:=n2;have HV:=n3;clear n1 n2 n3
 cases t with
 | true =>
  rw [if_pos rfl] at HJ
  have HJ1:=Aside0.mk HJ
  clear HJ
  go_wp2
  go_roundg m1
  case measure=>have:=HM.out;omega
  case rel=>exact ⟨wrap64 (j - 1),rfl,HJ1,⟨(by have:=HM.out;omega)⟩,HI2,HO,HV,HB⟩
 | false =>
 rw [if_neg (show ¬ (false=true) by decide)] at HJ
 obtain rfl:=Option.some.inj HJ
 clear HJ d01 d02 HI2
 have HI8:=HI.out
 obtain ⟨Y,hY⟩:∃ Y:List S30,Y=acc.drop j.toNat:=⟨_,rfl⟩
 obtain ⟨Z,hZ⟩:∃ Z:List S30,Z=acc.take j.toNat++[x]:=⟨_,rfl⟩
 have YL:=Aside0.mk (show Y.length≤acc.length by rw [hY,List.length_drop];omega)
 have ZL:=Aside0.mk (show Z.length+Y.length=acc.length+1 by rw [hY,hZ,List.length_append,List.length_drop,List.length_take,List.length_singleton];omega)
 have HQ2:=Aside0.mk (show r05_Order.l0 k1 l0 (Z++Y) (wrap64 (i+1))=some r by rw [hY,hZ];exact HQ1.out)
 obtain ⟨B8,hB8⟩:∃ B8,B8=w3.heap.size:=⟨_,rfl⟩
 obtain ⟨A35,c35,hcut35,hF35⟩:∃ A35 c35,(∀ W,(Instr.slice 38 (.slice (some a3) acc.length c3) (some (.int .i64 j)) none none).run Try.prog W = .ok (.slice A35 Y.length c35) W)∧Kd.F k30 w3 (fun k_=>(P0_ k_∨w.heap.size≤k_)∧k_<B8) A35 Y.length Y:=by
  refine ⟨if c3=j.toNat then some a3 else(some a3).map (·.add (j.toNat*4)),c3 - j.toNat,fun W=>?_,z32_26⟩
  rw [hY,List.length_drop]
  exact cut_from 38 30 .i64 Try.underlying38 hi30 4 hsz30 (some a3) acc.length c3 j (by omega) (by omega) W
 have hcut40:∀ W,(Instr.slice 38 (.slice (some a3) acc.length c3) none (some (.int .i64 j)) (some (.int .i64 j))).run Try.prog W = .ok (.slice (some a3) j.toNat j.toNat) W:=by
  intro W
  have hc3:=(Kd.N_reads' HO.out).2.1
  have hel:Try.prog.elem 38=30:=by simp [Program.elem,Try.underlying38]
  have hu:Try.prog.underlying 38=some (.slice (Try.prog.elem 38)):=by rw [hel];exact Try.underlying38
  rw [run_slice_hm W 38 (some a3) acc.length c3 hu .i64 .i64 j j (by omega) (Int.le_refl _) (by omega),hel]
  simp [sizeOf,typeInfo,hi30,hsz30,sliced,Result.andThen,Addr.add]
 have HC40:=Aside0.mk hcut40
 have HF35:=Aside0.mk hF35
 have HO8:=Aside0.mk (show Kd.N k30 30 w3 w.heap.size (fun k_=>(P0_ k_∨w.heap.size≤k_)∧k_<B8) (.slice (some a3) acc.length c3) acc by rw [hB8];exact Kd.N_bound HO.out)
 have LB8:=Aside0.mk (Nat.le_of_eq hB8)
 have WB8:=Aside0.mk (show w.heap.size≤B8 by rw [hB8];exact below_size HB.out)
 have NZ:=Aside0.mk hZ
 clear HO hF35 hcut40 HI8 hB8 hY hZ HQ1
 go_upto_region 9 with (first|((with_reducible refine gate_dst (N:=32) rfl ?_);refine Kd.N_lit k30 _ 30 ?hg (N':=32) ?hd (xs:=([]:List S30)) (inner:=[]) (ok:=(fun k_=>(P0_ k_∨w.heap.size≤k_))) (okp:=fun _=>False) ?hr ?hp (fun _ hk=>hk.elim) (.inr (below_size HB.out)) HB.out (below_size HB.out) (by simp) ?_;(case hd=>rfl);(case hg=>rfl);(case hr=>exact z10_10);(case hp=>exact Reps.none _ _);intro v32 w32 ho hb hg hn;have hbb:Below w3.heap.size w3 w32:=⟨hg.os,hg.tape,hg.output,hg.size,fun k hk=>hg.block k hk (by simp)⟩;have n2:=Aside0.mk (Kd.F_below HV.out hbb);have n3:=Aside0.mk (Kd.F_below HF35.out hbb);have n4:=Aside0.mk (Kd.N_below HO8.out hbb);have n5:=Aside0.mk (Nat.le_trans LB8.out hbb.size);have n6:=Aside0.mk (show ∃ b,v32.ownBlock=some b∧B8≤b by obtain ⟨b,h1,h2⟩:=hn;exact ⟨b,h1,Nat.le_trans LB8.out h2⟩);clear HB HV HF35 HO8 LB8 hn hg hbb;have HB:=Aside0.mk hb;have HV:=n2;have HF35:=n3;have HO8:=n4;have LB8:=n5;have HN32:=Aside0.mk ho;clear hb n2 n3 n4 n5;obtain ⟨A32,c32,e32⟩:=Kd.N_slice ho;subst e32;have NB:=n6;clear n6 ho)|((with_reducible refine gate_builtin (b:=.append) (xs:=#[.tmp 32,.tmp 35]) rfl ?_);at_builtin;refine Kd.N_append_rows k30 (w0:=w) w.heap.size rfl (.tmp 32) (.tmp 35) 38 30 (.agg #[(.int .i64 0),(.int .i64 0),(.slice none 0 0),(.slice none 0 0)]) 64 rfl Try.underlying38 info30 rfl (by decide) (by decide) (.slice A32 ([]:List S30).length c32) [] Y A35 Y.length c35 (fun k_=>(P0_ k_∨w.heap.size≤k_)) (fun k_=>(P0_ k_∨w.heap.size≤k_)∧k_<B8) rfl rfl HN32.out HF35.out (fun k_ hk=>⟨hk.1,fun he=>by obtain ⟨b,h1,h2⟩:=NB.out;rw [h1] at he;injection he with he;have:=hk.2;omega⟩) (fun k_ hk=>.inr (Nat.le_trans (below_size HB.out) hk)) HB.out (below_size HB.out) (by have:=CL.out;have:=YL.out;simp only [List.length_nil];omega) ?_;intro v36 w36 ho hb hg hat;have n2:=Aside0.mk (Kd.F_grown HV.out hg (fun k_ hk he=>by obtain ⟨b,h1,h2⟩:=NB.out;rw [h1] at he;injection he with he;have:=hk.2;have:=WB8.out;omega));have n4:=Aside0.mk (Kd.N_grown HO8.out hg (fun k_ hk he=>by obtain ⟨b,h1,h2⟩:=NB.out;rw [h1] at he;injection he with he;have:=hk.2;omega));have n5:=Aside0.mk (Nat.le_trans LB8.out hg.size);clear HB HV HF35 HO8 LB8 hg hat NB HN32;have HB:=Aside0.mk hb;have HV:=n2;have HO8:=n4;have LB8:=n5;rw [List.nil_append] at ho;have HR8:=Aside0.mk ho;clear hb n2 n4 n5;obtain ⟨A36,c36,e36⟩:=Kd.N_slice ho;subst e36;clear ho))
 clear hcut35
 obtain ⟨ad',cx,ead,hcl,hFK,hcc,_⟩:=Kd.F_get HV.out z30 i CI.out.1 CI.out.2
 cases ead
 rw [show l0.getD i.toNat z30=x from HX.out.symm] at hFK
 obtain ⟨X2,d2,X3,d3,rfl,l2,g2,l3,g3⟩:=k30_openF hFK
 have hx0:=hcc 0 _ rfl;have hx1:=hcc 1 _ rfl;have hx2:=hcc 2 _ rfl;have hx3:=hcc 3 _ rfl
 rw [Nat.add_zero] at hx0;rw [add_field _ _ 1 (by omega)] at hx1;rw [add_field _ _ 2 (by omega)] at hx2;rw [add_field _ _ 3 (by omega)] at hx3
 have NX:=Aside0.mk (And.intro l2 l3)
 have ha0:(0:Nat)<Z.length:=by rw [NZ.out];simp
 obtain ⟨B9,hB9⟩:∃ B9,B9=w36.heap.size:=⟨_,rfl⟩
 have HT9:=Aside0.mk (show Kd.F k30 w36 (fun k_=>(P0_ k_∨w.heap.size≤k_)∧k_<B9) (some a3) j.toNat (acc.take j.toNat) by
  have h1:=Kd.F_take (m:=j.toNat) (Kd.F_mono (Kd.F_bound (Kd.N_F HO8.out)) (ok':=fun k_=>(P0_ k_∨w.heap.size≤k_)∧k_<B9) (fun k_ hk=>⟨hk.1.1,(by rw [hB9];exact hk.2)⟩)) (by have:=HI.out;omega)
  rw [List.length_take,Nat.min_eq_left (by have:=HI.out;omega)] at h1
  exact h1)
 have HR9:=Aside0.mk (show Kd.N k30 30 w36 w.heap.size (fun k_=>(P0_ k_∨w.heap.size≤k_)∧k_<B9) (.slice A36 Y.length c36) Y by rw [hB9];exact Kd.N_bound HR8.out)
 have LB9:=Aside0.mk (Nat.le_of_eq hB9)
 have WB9:=Aside0.mk (show w.heap.size≤B9 by rw [hB9];exact below_size HB.out)
 have PX:=Aside0.mk (k30_mkF w36 (fun k_=>P0_ k_∧k_<w.heap.size) x l2 g2 l3 g3)
 clear HO8 HR8 LB8 WB8 hB9 hFK hcc hcl g2 g3 l2 l3 ha0
 refine region_cards (F:=?F92) 11 (fun w'=>Aside0 (Below w.heap.size w w')∧Aside0 (Kd.F k30 w' (fun k_=>P0_ k_∧k_<w.heap.size) (some ad) l0.length l0)∧Aside0 (Kd.F k30 w' (fun k_=>(P0_ k_∨w.heap.size≤k_)∧k_<B9) (some a3) j.toNat (acc.take j.toNat))∧Aside0 (Kd.N k30 30 w' w.heap.size (fun k_=>(P0_ k_∨w.heap.size≤k_)∧k_<B9) (.slice A36 Y.length c36) Y)∧Aside0 (B9≤w'.heap.size)∧Aside0 (Kd.FK k30 w' (fun k_=>P0_ k_∧k_<w.heap.size) x [.int .i64 x.f0.f0,.int .i64 x.f0.f1,.slice X2 x.f1.length d2,.slice X3 x.f2.length d3])∧w'.cell? (ad.add (i.toNat*4))=some (.int .i64 x.f0.f0)∧w'.cell? ⟨(ad.add (i.toNat*4)).block,(ad.add (i.toNat*4)).off+1,none⟩=some (.int .i64 x.f0.f1)∧w'.cell? ⟨(ad.add (i.toNat*4)).block,(ad.add (i.toNat*4)).off+2,none⟩=some (.slice X2 x.f1.length d2)∧w'.cell? ⟨(ad.add (i.toNat*4)).block,(ad.add (i.toNat*4)).off+3,none⟩=some (.slice X3 x.f2.length d3))
  [fun v _ _ _=>v = .slice (some a3) acc.length c3,
  fun v _ _ _=>v = .int .i64 j,
  fun v _ _ _=>v = .int .i64 j,
  fun v _ _ _=>v = .slice (some a3) j.toNat j.toNat,
  fun v _ _ _=>v = .slice (some ad) l0.length c0,
  fun v _ _ _=>v = .int .i64 i,
  fun v _ _ _=>v = .pointer (some (ad.add (i.toNat*4))),
  fun v _ _ _=>v = .agg #[.int .i64 x.f0.f0,.int .i64 x.f0.f1,.slice X2 x.f1.length d2,.slice X3 x.f2.length d3],
  fun v_ w' lo hi=>∃ a,v_ = .slice (some a) 1 1∧Kd.F k30 w' (fun k_=>(P0_ k_∧k_<w.heap.size)∨B9≤k_) (some a) 1 [x],
  fun v_ w' lo hi=>Kd.N k30 30 w' w.heap.size (fun k_=>P0_ k_∨w.heap.size≤k_) v_ Z∧∃ b,v_.ownBlock=some b∧B9≤b,
  fun v _ _ _=>v = .slice A36 Y.length c36]
  z3_17 z3_17 ?hF92 ?hS092 ?hS92 ?hstay92 ?hsteps92 ?hend92
 case hF92 =>
  intro vs
  simp only [List.take_succ_cons,List.take_zero,fill,if_true,if_false,Act.put,List.setIfInBounds_toArray,List.set_cons_zero,List.set_cons_succ,Nat.reduceAdd,List.contains_cons,List.contains_nil,Nat.reduceBEq,Bool.or_false,Bool.false_or,Bool.not_true,Bool.not_false,Bool.false_eq_true,Bool.or_self,Bool.true_or]
  rfl
 case hS092=>exact ⟨⟨below_drew HB.out⟩,⟨Kd.F_drew HV.out⟩,⟨Kd.F_drew HT9.out⟩,⟨Kd.N_drew HR9.out⟩,LB9,⟨Kd.FK_below PX.out (below_drew (Below.refl _ _))⟩,pw_cell_below (below_drew (Below.refl _ _)) hx0,pw_cell_below (below_drew (Below.refl _ _)) hx1,pw_cell_below (below_drew (Below.refl _ _)) hx2,pw_cell_below (below_drew (Below.refl _ _)) hx3⟩
 case hS92=>exact fun w1 w2 hb hs=>⟨⟨below_step hs.1.out hb⟩,⟨Kd.F_below hs.2.1.out hb⟩,⟨Kd.F_below hs.2.2.1.out hb⟩,⟨Kd.N_below hs.2.2.2.1.out hb⟩,⟨Nat.le_trans hs.2.2.2.2.1.out hb.size⟩,⟨Kd.FK_below hs.2.2.2.2.2.1.out hb⟩,pw_cell_below hb hs.2.2.2.2.2.2.1,pw_cell_below hb hs.2.2.2.2.2.2.2.1,pw_cell_below hb hs.2.2.2.2.2.2.2.2.1,pw_cell_below hb hs.2.2.2.2.2.2.2.2.2⟩
 case hstay92=>exact ⟨fun _ _ _ _ _ _ h=>h,fun _ _ _ _ _ _ h=>h,fun _ _ _ _ _ _ h=>h,fun _ _ _ _ _ _ h=>h,fun _ _ _ _ _ _ h=>h,fun _ _ _ _ _ _ h=>h,fun _ _ _ _ _ _ h=>h,fun _ _ _ _ _ _ h=>h,fun _ _ _ _ _ hb h=>by obtain ⟨a,h1,h2⟩:=h;exact ⟨a,h1,Kd.F_below h2 hb⟩,fun _ _ _ _ _ hb h=>⟨Kd.N_below h.1 hb,h.2⟩,fun _ _ _ _ _ _ h=>h,trivial⟩
 case hsteps92 =>
  refine ⟨?s92_0,?s92_1,?s92_2,?s92_3,?s92_4,?s92_5,?s92_6,?s92_7,?s92_8,?s92_9,?s92_10,trivial⟩
  case s92_0 =>
   intro _ vs lo hi W hs hp
   exact does_val z10_10 ⟨rfl,Below.refl _ _⟩
  case s92_1 =>
   intro _ vs lo hi W hs hp
   exact does_val z10_10 ⟨rfl,Below.refl _ _⟩
  case s92_2 =>
   intro _ vs lo hi W hs hp
   exact does_val z10_10 ⟨rfl,Below.refl _ _⟩
  case s92_3 =>
   intro _ vs lo hi W hs hp
   have e0:vs 0 = .slice (some a3) acc.length c3:=hp 0 z3_17 rfl
   have e1:vs 1 = .int .i64 j:=hp 1 z3_17 rfl
   have e2:vs 2 = .int .i64 j:=hp 2 z3_17 rfl
   have hc_:=HC40.out
   exact does_val z10_10 ⟨rfl,Below.refl _ _⟩
  case s92_4 =>
   intro _ vs lo hi W hs hp
   exact does_val z10_10 ⟨rfl,Below.refl _ _⟩
  case s92_5 =>
   intro _ vs lo hi W hs hp
   exact does_val z10_10 ⟨rfl,Below.refl _ _⟩
  case s92_6 =>
   intro _ vs lo hi W hs hp
   have e4:vs 4 = .slice (some ad) l0.length c0:=hp 4 z3_17 rfl
   have e5:vs 5 = .int .i64 i:=hp 5 z3_17 rfl
   exact does_val z10_10 ⟨rfl,Below.refl _ _⟩
  case s92_7 =>
   intro _ vs lo hi W hs hp
   have e6:vs 6 = .pointer (some (ad.add (i.toNat*4))):=hp 6 z3_17 rfl
   obtain ⟨y0,y1,y2,y3⟩:=hs.2.2.2.2.2.2
   exact does_val z10_10 ⟨rfl,Below.refl _ _⟩
  case s92_8 =>
   intro _ vs lo hi W hs hp
   have e7:vs 7 = .agg #[.int .i64 x.f0.f0,.int .i64 x.f0.f1,.slice X2 x.f1.length d2,.slice X3 x.f2.length d3]:=hp 7 z3_17 rfl
   exact does_val (v:=.slice (some ⟨W.heap.size,0,none⟩) 1 1) (w1:=W.alloc (.cells #[.int .i64 x.f0.f0,.int .i64 x.f0.f1,.slice X2 x.f1.length d2,.slice X3 x.f2.length d3] 30)) z10_10 ⟨⟨_,rfl,Kd.F_mono (r05_Order.lit1_FK W 30 hs.2.2.2.2.2.1.out) (fun k_ hk=>by rcases hk with hk|hk;exact .inl hk;exact .inr (hk ▸ hs.2.2.2.2.1.out))⟩,below_alloc (Below.refl _ _) _⟩
  case s92_9 =>
   intro _ vs lo hi W hs hp
   have e3:vs 3 = .slice (some a3) j.toNat j.toNat:=hp 3 z3_17 rfl
   obtain ⟨a_,e8,hF8⟩:∃ a,vs 8 = .slice (some a) 1 1∧Kd.F k30 W (fun k_=>(P0_ k_∧k_<w.heap.size)∨B9≤k_) (some a) 1 [x]:=hp 8 z3_17 rfl
   obtain ⟨v_,w_,hrun,hN,hb_,b_,hb1,hb2⟩:=r05_Order.cut_append (P:=Try.prog) (W:=W) (d:=k30) (t:=38) (ty:=38) (e:=30) (z:=.agg #[(.int .i64 0),(.int .i64 0),(.slice none 0 0),(.slice none 0 0)]) (bytes:=64) (base:=w.heap.size) (A:=a3) (a:=a_) (j:=j.toNat) (c:=1) (xs:=acc.take j.toNat) (x:=x) (ok:=fun k_=>P0_ k_∨w.heap.size≤k_) (okp:=fun k_=>P0_ k_∨w.heap.size≤k_) Try.underlying38 info30 rfl (by decide) (by decide) (Kd.F_mono hs.2.2.1.out (fun _ hk=>hk.1)) (Kd.F_mono hF8 (fun k_ hk=>by rcases hk with hk|hk;exact .inl hk.1;exact .inr (Nat.le_trans WB9.out hk))) (below_size hs.1.out) (by have:=CL.out;have:=HI.out;omega) (fun _ hk=>hk) (fun k_ hk=>.inr (Nat.le_trans (below_size hs.1.out) hk))
   refine does_val (v:=v_) (w1:=w_) ?_ ⟨⟨(by rw [NZ.out];exact hN),b_,hb1,Nat.le_trans hs.2.2.2.2.1.out hb2⟩,hb_⟩
   have go_:∀ {ρ:Operand→Value} {o:Oper} {v w':_},ρ (.tmp 40) = .slice (some a3) j.toNat j.toNat→ρ (.tmp 45) = .slice (some a_) 1 1→o.op = .call { callee:=.builtin .append,args:=#[.tmp 40,.tmp 45],argTypes:=#[38,38] }→(Builtin.append_ #[38,38] o.type #[.slice (some a3) j.toNat j.toNat,.slice (some a_) 1 1]).run Try.prog W = .ok v w'→(execOp ρ o).run Try.prog W = .ok (.value v) w':=by
    intro ρ o v w' h1 h2 h3 h4
    unfold execOp
    simp only [h3,resolve,invoke,builtin,Sem.run_bind,Sem.run_pure,Result.andThen_ok,List.map_toArray,List.map_cons,List.map_nil,h1,h2,h4]
   exact go_ e3 e8 rfl hrun
  case s92_10 =>
   intro _ vs lo hi W hs hp
   exact does_val z10_10 ⟨rfl,Below.refl _ _⟩
 case hend92 =>
 intro vs lo hi W hs hp _
 simp only [List.drop_succ_cons,List.drop_zero]
 have e10:vs 10 = .slice A36 Y.length c36:=hp 10 (by decide)
 obtain ⟨hN9,hO9⟩:Kd.N k30 30 W w.heap.size (fun k_=>P0_ k_∨w.heap.size≤k_) (vs 9) Z∧∃ b,(vs 9).ownBlock=some b∧B9≤b:=hp 9 (by decide)
 obtain ⟨A46,c46,e46⟩:=Kd.N_slice hN9
 rw [e46] at hN9 hO9
 rw [e10,e46]
 clear hp e10 e46 HB HV HT9 HR9 LB9 PX hx0 hx1 hx2 hx3
 obtain ⟨HB,HV,HT9,HR9,LB9,_⟩:=hs
 have HN:=Aside0.mk hN9
 have NB:=Aside0.mk hO9
 clear hN9 hO9
 go_wp2_with (first|((with_reducible refine gate_builtin (b:=.append) (xs:=#[.tmp 46,.tmp 47]) rfl ?_);at_builtin;refine Kd.N_append_rows k30 (w0:=w) w.heap.size rfl (.tmp 46) (.tmp 47) 38 30 (.agg #[(.int .i64 0),(.int .i64 0),(.slice none 0 0),(.slice none 0 0)]) 64 rfl Try.underlying38 info30 rfl (by decide) (by decide) (.slice A46 Z.length c46) Z Y A36 Y.length c36 (fun k_=>(P0_ k_∨w.heap.size≤k_)) (fun k_=>(P0_ k_∨w.heap.size≤k_)∧k_<B9) rfl rfl HN.out (Kd.N_F HR9.out) (fun k_ hk=>⟨hk.1,fun he=>by obtain ⟨b,h1,h2⟩:=NB.out;rw [h1] at he;injection he with he;have:=hk.2;omega⟩) (fun k_ hk=>.inr (Nat.le_trans (below_size HB.out) hk)) HB.out (below_size HB.out) (by have:=CL.out;have:=ZL.out;omega) ?_;intro v48 w48 ho hb hg hat;have n2:=Aside0.mk (Kd.F_grown HV.out hg (fun k_ hk he=>by obtain ⟨b,h1,h2⟩:=NB.out;rw [h1] at he;injection he with he;have:=hk.2;have:=WB9.out;omega));have n3:=Aside0.mk (show ∃ b,v48.ownBlock=some b from hat.elim (fun hat=>NB.out.elim fun b h1=>⟨b,hat.trans h1.1⟩) (fun h=>h.elim fun b h1=>⟨b,h1.1⟩));clear HB HV HT9 HR9 LB9 hg hat NB HN;have HB:=Aside0.mk hb;have HV:=n2;have HN:=Aside0.mk ho;clear hb n2;obtain ⟨A48,c48,e48⟩:=Kd.N_slice ho;subst e48;clear ho))
 obtain ⟨b48,hb48⟩:=n3.out
 obtain ⟨a48,ea48⟩:=r05_Order.own_some hb48
 subst ea48
 go_roundg k1
 case measure=>have:=HK.out;omega
 case rel=>exact ⟨Z++Y,wrap64 (i+1),a48,c48,rfl,(by rw [List.length_append]),HQ2,⟨(by have:=HK.out;omega)⟩,HN,HV,HB⟩
end Go.Proofs.Ytgocnchjpecafaa.PEv
