/- a part -/
import Derived.Test.YtgocnchjpecafaaPEvx30
import Derived.Test.YtgocnchjpecafaaPEvx33
namespace Go.Proofs.Ytgocnchjpecafaa.PEv
open Go.RowKit Go.Proofs.YtgocnchjpecafaaW.PrintWords Go.Proofs.YtgocnchjpecafaaW.PrintLast Go.Proofs.YtgocnchjpecafaaW.PrintMore
attribute [local go_sem] max2_int min2_int max_two min_two max_three min_three max_four min_four
set_option linter.unusedVariables false
set_option linter.unusedSimpArgs false
set_option maxHeartbeats 8000000
set_option maxRecDepth 100000
theorem z34_0 {P:Prop} (h:P:=by repeat(first|(with_reducible first|exact HB.out|apply below_alloc|apply pw_below_drewN|apply below_drew1|refine below_set ?_ GE726.out|refine below_set ?_ GE727.out|refine below_set ?_ GE739.out)|exact HB.out)):P:=h
theorem z34_1 {P:Prop} (h:P:=by(with_reducible repeat(first|refine blk_drewN ?_ _|refine blk_drew ?_|refine blk_alloc ?_ _));exact BK726.out):P:=h
theorem z34_2 {P:Prop} (h:P:=by repeat(first|(with_reducible first|exact HB.out|apply below_alloc|apply pw_below_drewN|apply below_drew1|refine below_set ?_ GE726.out|refine below_set ?_ GE727.out)|exact HB.out)):P:=h
theorem z34_3 {P:Prop} (h:P:=by(with_reducible repeat(first|refine blk_drewN ?_ _|refine blk_drew ?_|refine blk_alloc ?_ _));exact BK727.out):P:=h
theorem z34_6 {P:Prop} (h:P:=by(with_reducible repeat(first|refine blk_drewN ?_ _|refine blk_drew ?_|refine blk_alloc ?_ _));exact BK739.out):P:=h
theorem z34_7 {P:Prop} (h:P:=by(with_reducible repeat(first|apply Kd.R_alloc|apply Kd.R_drewN|apply Kd.R_drew));exact HO733.out):P:=h
theorem z34_8 {P:Prop} (h:P:=by(with_reducible repeat(first|apply Kd.N_alloc|apply Kd.N_drewN|apply Kd.N_drew));exact HO737.out):P:=h
theorem z34_11 {P:Prop} (h:P:=by(with_reducible repeat(first|apply Kd.R_alloc|apply Kd.R_drewN|apply Kd.R_drew));exact HO_740000.out):P:=h
theorem z34_12 {P:Prop} (h:P:=by(with_reducible repeat(first|apply Kd.N_alloc|apply Kd.N_drewN|apply Kd.N_drew));exact HO_740002.out):P:=h
theorem z34_14 {P:Prop} (h:P:=by(with_reducible repeat(first|apply Kd.N_alloc|apply Kd.N_drewN|apply Kd.N_drew));exact HO_9.out):P:=h
theorem z34_15 {P:Prop} (h:P:=by(with_reducible repeat(first|apply Kd.N_alloc|apply Kd.N_drewN|apply Kd.N_drew));exact Kd.N_mono HO742.out (fun _ hk=>⟨hk.1.1.1,⟨hk.1.1.2.1,⟨hk.1.1.2.2.1,⟨hk.1.1.2.2.2.1,hk.1.1.2.2.2.2⟩⟩⟩⟩)):P:=h
theorem z34_16 {P:Prop} (h:P:=by(with_reducible repeat(first|apply Kd.N_alloc|apply Kd.N_drewN|apply Kd.N_drew));exact Kd.N_mono HO737.out (fun _ hk=>⟨hk.1.1.2,⟨hk.1.1.1.1,⟨hk.1.1.1.2.1,⟨hk.1.1.1.2.2.1,hk.1.1.1.2.2.2⟩⟩⟩⟩)):P:=h
theorem z34_17 {P:Prop} (h:P:=by(with_reducible repeat(first|apply Kd.N_alloc|apply Kd.N_drewN|apply Kd.N_drew));exact HO742.out):P:=h
theorem z34_18 {P:Prop} (h:P:=by repeat(first|exact(Kd.R_reads' HO_740000.out).2.2|(with_reducible refine Kd.C_alloc ?_ _)|(with_reducible refine Kd.C_drewN ?_ _)|(with_reducible refine Kd.C_drew ?_))):P:=h
theorem z34_19 {P:Prop} (h:P:=by repeat(first|exact(Kd.N_reads' HO_740002.out).2.2|(with_reducible refine Kd.C_alloc ?_ _)|(with_reducible refine Kd.C_drewN ?_ _)|(with_reducible refine Kd.C_drew ?_))):P:=h
theorem z34_20 {P:Prop} (h:P:=by repeat(first|(with_reducible first|exact HB.out|apply below_alloc|apply pw_below_drewN|apply below_drew1|refine below_set ?_ GE726.out)|exact HB.out)):P:=h
theorem z34_24 {P:Prop} (h:P:=by(with_reducible repeat(first|apply Kd.N_alloc|apply Kd.N_drewN|apply Kd.N_drew));exact HO745.out):P:=h
theorem z34_25 {P:Prop} (h:P:=by(with_reducible repeat(first|apply Kd.R_alloc|apply Kd.R_drewN|apply Kd.R_drew));exact HO755.out):P:=h
theorem z34_27 {P:Prop} (h:P:=by repeat(first|exact(Kd.C_below HR1_0.out z34_2)|(with_reducible refine Kd.C_alloc ?_ _)|(with_reducible refine Kd.C_drewN ?_ _)|(with_reducible refine Kd.C_drew ?_))):P:=h
theorem z34_28 {P:Prop} (h:P:=by repeat(first|exact(Kd.C_below HR1_2.out z34_2)|(with_reducible refine Kd.C_alloc ?_ _)|(with_reducible refine Kd.C_drewN ?_ _)|(with_reducible refine Kd.C_drew ?_))):P:=h
mutual
def w28_GossipLacks.j0:Nat→List (S30)→Bool→List Int→Bool→List (S30)→List Int→Int→Option (Bool)
 | 0,_,_,_,_,_,_,_=>none
 | k+1,x0,x23,x727000,x727001,x727002,x728000,x728001=>if x23=true then((w28_awake.f k).bind fun t730=>(some t730)) else((gossip_Answer.f k x0 x728000 x727000 x727001 x727002).bind fun bt731=>((r28_Lacks.f k x0 x727000 16).bind fun t740=>((gossip_Lacks.f k x0 x727000 x728001).bind fun t743=>((r28_Lacks.f k x0 x727000 x728001).bind fun t746=>((r05_All.f k t743 t746).bind fun t749=>(if t749=true then((r03_May.f k x728000).bind fun t750=>(if t750=true then(if x727001=true then(w28_GossipLacks.j1 k bt731.2.2.2 t740 ((t740.length:Int) == 0) x728000 x728001 bt731.1 bt731.2.1 bt731.2.2.1) else(w28_GossipLacks.j1 k bt731.2.2.2 t740 true x728000 x728001 bt731.1 bt731.2.1 bt731.2.2.1)) else(w28_GossipLacks.j1 k bt731.2.2.2 t740 true x728000 x728001 bt731.1 bt731.2.1 bt731.2.2.1))) else(some false)))))))
def w28_GossipLacks.j1:Nat→Bool→List (S30)→Bool→List Int→Int→List Int→Bool→List (S30)→Option (Bool)
 | 0,_,_,_,_,_,_,_,_=>none
 | k+1,x8,x9,x64,x728000,x728001,x740000,x740001,x740002=>if x64=true then(if x8=true then(some false) else((r28_Same.f k x740000 x740001 x740002 ([]:List Int) false ([]:List (S30))).bind fun t751=>(if t751=true then((w28_awake.f k).bind fun t752=>(some t752)) else(some false)))) else(if x8=true then((r03_Plain.f k x728000).bind fun t753=>((r28_Same.f k x740000 x740001 x740002 t753 false x9).bind fun t756=>(if t756=true then((r28_May.f k x740000 x740001 x740002).bind fun t757=>(if t757=true then((w28_awake.f k).bind fun t758=>(some t758)) else(some false))) else(some false)))) else(some false))
end
def w28_GossipLacks.f (k:Nat) (l0:List (S30)) (l1_0:List Int) (a1_1:Bool) (l1_2:List (S30)) (l2_0:List Int) (a2_1:Int):Option (Bool):=(w05_Light.f k l0).bind fun t728=>(if t728=true then((w28_Light.f k l1_0 a1_1 l1_2).bind fun t729=>(if t729=true then(w28_GossipLacks.j0 k l0 (decide ((l2_0.length:Int) > 20)) l1_0 a1_1 l1_2 l2_0 a2_1) else(w28_GossipLacks.j0 k l0 true l1_0 a1_1 l1_2 l2_0 a2_1))) else(w28_GossipLacks.j0 k l0 true l1_0 a1_1 l1_2 l2_0 a2_1))
def w28_GossipLacks.T5:Bool×List (List Nat×List Nat):=(true,[([],[]),([],[]),([1],[1]),([],[]),([3],[3]),([0,2,4],[0,2,4]),([],[]),([],[]),([7],[7]),([],[]),([9],[9]),([6,8,10,5],[6,8,10]),([5,11,11],[5,11]),([12],[12])])
def w28_GossipLacks.B5:List Nat:=[0,0,2,0,8,31,0,0,128,0,512,2047,4095,8191]
theorem w28_GossipLacks.tab5:rtab .any (opsOf Try.f10 5)=w28_GossipLacks.T5:=by kernel_rfl
theorem w28_GossipLacks.bits5:waitsOk w28_GossipLacks.T5.2 w28_GossipLacks.B5=true:=by kernel_rfl
def w28_GossipLacks.T9:Bool×List (List Nat×List Nat):=(true,[([],[]),([0],[0]),([1],[1]),([1],[1]),([3,1],[1,3]),([4,1,1],[1,4]),([1],[1]),([5,6,1],[1,5,6]),([2,7,5,1],[1,2,7]),([1,8],[1,8]),([9,8],[9]),([10],[10]),([11,10,10],[10,11]),([10,12],[10,12]),([13,12],[13]),([14,14],[14]),([14,15],[14,15]),([16,15,0,1,2,3,4,5,6,7,8,9,10,11,12,13,14,15,16],[16])])
def w28_GossipLacks.B9:List Nat:=[0,1,3,3,11,27,3,123,255,511,1023,2047,4095,8191,16383,32767,65535,131071]
theorem w28_GossipLacks.tab9:rtab .any (opsOf Try.f10 9)=w28_GossipLacks.T9:=by kernel_rfl
theorem w28_GossipLacks.bits9:waitsOk w28_GossipLacks.T9.2 w28_GossipLacks.B9=true:=by kernel_rfl
theorem w28_GossipLacks.calls (k:Nat) (A0:Option Addr) (c0:Nat) (l0:List (S30)) (A1_0:Option Addr) (c1_0:Nat) (l1_0:List Int) (a1_1:Bool) (A1_2:Option Addr) (c1_2:Nat) (l1_2:List (S30)) (A2_0:Option Addr) (c2_0:Nat) (l2_0:List Int) (a2_1:Int) (r:Bool) (w:World) (hr0:Kd.C k30 w A0 l0.length l0) (hc0:l0.length≤c0) (hr1_0:Kd.C (Kd.int .i64) w A1_0 l1_0.length l1_0) (hc1_0:l1_0.length≤c1_0) (hr1_2:Kd.C k30 w A1_2 l1_2.length l1_2) (hc1_2:l1_2.length≤c1_2) (hr2_0:Kd.C (Kd.int .i64) w A2_0 l2_0.length l2_0) (hc2_0:l2_0.length≤c2_0) (h:w28_GossipLacks.f k l0 l1_0 a1_1 l1_2 l2_0 a2_1=some r) (hrt_:r=true) :
  Calls Try.prog 10 #[.slice A0 l0.length c0,.agg #[.slice A1_0 l1_0.length c1_0,.bool a1_1,.slice A1_2 l1_2.length c1_2],.agg #[.slice A2_0 l2_0.length c2_0,.int .i64 a2_1]] w fun e w'=>e = .returned (.bool r)∧Below w.heap.size w w':=by
 have hu53:=Try.underlying53
 have hu65:=Try.underlying65
 have HR0:=Aside0.mk hr0
 have HC0:=Aside0.mk hc0
 clear hr0 hc0
 have HR1_0:=Aside0.mk hr1_0
 have HC1_0:=Aside0.mk hc1_0
 clear hr1_0 hc1_0
 have HR1_2:=Aside0.mk hr1_2
 have HC1_2:=Aside0.mk hc1_2
 clear hr1_2 hc1_2
 have HR2_0:=Aside0.mk hr2_0
 have HC2_0:=Aside0.mk hc2_0
 clear hr2_0 hc2_0
 have HB:=Aside0.mk (Below.refl w.heap.size w)
 have HRT_:=Aside0.mk hrt_
 clear hrt_
 have H:((w05_Light.f k l0).bind fun t728=>(if t728=true then((w28_Light.f k l1_0 a1_1 l1_2).bind fun t729=>(if t729=true then(w28_GossipLacks.j0 k l0 (decide ((l2_0.length:Int) > 20)) l1_0 a1_1 l1_2 l2_0 a2_1) else(w28_GossipLacks.j0 k l0 true l1_0 a1_1 l1_2 l2_0 a2_1))) else(w28_GossipLacks.j0 k l0 true l1_0 a1_1 l1_2 l2_0 a2_1)))=some r:=h
 clear h
 have HC4:=Aside0.mk H
 clear H
 go_enter Try.func10,Try.ntmps10
 go_upto_region 1 with (first|((with_reducible refine gate_dst (N:=4) rfl ?_);(try(refine gate_guard (by rfl) ?_;dsimp only));refine box_event ?hg (N:=4) ?hd (cs:=#[.slice A1_0 l1_0.length c1_0,.bool a1_1,.slice A1_2 l1_2.length c1_2]) (t:=53) ?hr ?_;(case hd=>rfl);(case hg=>rfl);(case hr=>exact z10_10);intro gb726 hg w5 hbox hb;have BK726:=Aside0.mk (hbox);have GW726:=Aside0.mk ((by rw [hg];exact(below_size z9_4):w.heap.size≤gb726));have GE726:=Aside0.mk ((by rw [hg];exact(below_size z9_4):w.heap.size≤gb726));replace HB:=Aside0.mk (below_step z9_4 hb);clear hb hbox hg)|((with_reducible refine gate_dst (N:=5) rfl ?_);(try(refine gate_guard (by rfl) ?_;dsimp only));refine box_event ?hg (N:=5) ?hd (cs:=#[.slice A2_0 l2_0.length c2_0,.int .i64 a2_1]) (t:=65) ?hr ?_;(case hd=>rfl);(case hg=>rfl);(case hr=>exact z10_10);intro gb727 hg w6 hbox hb;have BK727:=Aside0.mk (hbox);have GW727:=Aside0.mk ((by rw [hg];exact(below_size z34_20):w.heap.size≤gb727));have GE727:=Aside0.mk ((by rw [hg];exact(below_size z34_20):w.heap.size≤gb727));replace HB:=Aside0.mk (below_step z34_20 hb);have NB726_727:=Aside0.mk ((by rw [hg];exact Nat.ne_of_lt (blk_lt (g:=gb726) (o:=.cells #[.slice A1_0 l1_0.length c1_0,.bool a1_1,.slice A1_2 l1_2.length c1_2] 53 (0,0)) z34_1):gb726≠gb727));have NB727_726:=Aside0.mk ((by rw [hg];exact Nat.ne_of_gt (blk_lt (g:=gb726) (o:=.cells #[.slice A1_0 l1_0.length c1_0,.bool a1_1,.slice A1_2 l1_2.length c1_2] 53 (0,0)) z34_1):gb727≠gb726));replace BK726:=Aside0.mk (blk_below (g:=gb726) (o:=.cells #[.slice A1_0 l1_0.length c1_0,.bool a1_1,.slice A1_2 l1_2.length c1_2] 53 (0,0)) z34_1 hb);clear hb hbox hg))
 (try simp only [Act.put,List.setIfInBounds_toArray,List.set_cons_zero,List.set_cons_succ])
 go_cut [23] (fun v23 wc=>∃ (kq:Nat) (x23_3:Bool),v23 = .bool x23_3∧Aside0 (w28_GossipLacks.j0 kq l0 x23_3 l1_0 a1_1 l1_2 l2_0 a2_1=some r)∧Aside0 (kq≤k)∧Aside0 (wc.heap[gb726]? = some (.cells #[(.slice A1_0 l1_0.length c1_0),.bool a1_1,(.slice A1_2 l1_2.length c1_2)] 53 (0,0)))∧Aside0 (wc.heap[gb727]? = some (.cells #[(.slice A2_0 l2_0.length c2_0),.int .i64 a2_1] 65 (0,0)))∧Aside0 (Below w.heap.size w wc))
 case first =>
  have H:=HC4.out
  clear HC4
  replace H:=Option.bind_eq_some_iff.mp H
  obtain ⟨t728,A70,H⟩:=H
  replace H:(if t728=true then((w28_Light.f k l1_0 a1_1 l1_2).bind fun t729=>(if t729=true then(w28_GossipLacks.j0 k l0 (decide ((l2_0.length:Int) > 20)) l1_0 a1_1 l1_2 l2_0 a2_1) else(w28_GossipLacks.j0 k l0 true l1_0 a1_1 l1_2 l2_0 a2_1))) else(w28_GossipLacks.j0 k l0 true l1_0 a1_1 l1_2 l2_0 a2_1))=some r:=H
  have A7:=Aside0.mk A70
  clear A70
  by_cases c8:t728=true
  rotate_left
  ·replace c8:=Bool.eq_false_iff.mpr c8
   subst c8
   have H1:(w28_GossipLacks.j0 k l0 true l1_0 a1_1 l1_2 l2_0 a2_1)=some r:=by rw [if_neg (show ¬ (false=true) by decide)] at H;exact H
   clear H
   have H:=H1
   clear H1
   have H':=Aside0.mk H
   clear H
   go_wp2_with (first|((with_reducible refine gate_callee (f:=16) rfl ?_);refine goesL_ (some 11) rfl rfl Try.func16 z3_17 rfl #[.slice A0 l0.length c0] rfl z6_5 ?_;(with_reducible refine(w05_Light.calls k _ _ l0 false _ ?side1 ?side2 A7.out).mono ?_);(case side1=>exact z10_9);(case side2=>exact HC0.out);rintro e w' ⟨rfl,⟨nd,rfl⟩⟩;refine ⟨_,rfl,?_⟩))
   go_meet
   case rel=>exact ⟨_,(true),z9_3,H',⟨(by first|omega|exact Nat.le_refl _)⟩,⟨z34_1⟩,⟨z34_3⟩,⟨z34_2⟩⟩
  subst c8
  have H1:((w28_Light.f k l1_0 a1_1 l1_2).bind fun t729=>(if t729=true then(w28_GossipLacks.j0 k l0 (decide ((l2_0.length:Int) > 20)) l1_0 a1_1 l1_2 l2_0 a2_1) else(w28_GossipLacks.j0 k l0 true l1_0 a1_1 l1_2 l2_0 a2_1)))=some r:=by rw [if_pos rfl] at H;exact H
  clear H
  have H:=H1
  clear H1
  replace H:=Option.bind_eq_some_iff.mp H
  obtain ⟨t729,A90,H⟩:=H
  replace H:(if t729=true then(w28_GossipLacks.j0 k l0 (decide ((l2_0.length:Int) > 20)) l1_0 a1_1 l1_2 l2_0 a2_1) else(w28_GossipLacks.j0 k l0 true l1_0 a1_1 l1_2 l2_0 a2_1))=some r:=H
  have A9:=Aside0.mk A90
  clear A90
  by_cases c10:t729=true
  ·subst c10
   have H1:(w28_GossipLacks.j0 k l0 (decide ((l2_0.length:Int) > 20)) l1_0 a1_1 l1_2 l2_0 a2_1)=some r:=by rw [if_pos rfl] at H;exact H
   clear H
   have H:=H1
   clear H1
   have H':=Aside0.mk H
   clear H
   go_wp2_with (first|((with_reducible refine gate_callee (f:=16) rfl ?_);refine goesL_ (some 11) rfl rfl Try.func16 z3_17 rfl #[.slice A0 l0.length c0] rfl z6_5 ?_;(with_reducible refine(w05_Light.calls k _ _ l0 true _ ?side1 ?side2 A7.out).mono ?_);(case side1=>exact z10_9);(case side2=>exact HC0.out);rintro e w' ⟨rfl,⟨nd,rfl⟩⟩;refine ⟨_,rfl,?_⟩;have hnb11:=NB726_727.out;have hnc11:=NB727_726.out;obtain ⟨hcz12_0,hcz12_1,hcz12_2,hfz12_0,hfz12_1,hfz12_2⟩:=cz3_ BK726.out)|(go_at_call 39;(with_reducible refine(w28_Light.calls k _ _ l1_0 a1_1 _ _ l1_2 true _ ?side1 ?side2 ?side3 ?side4 A9.out).mono ?_);(case side1=>exact z34_27);(case side2=>exact HC1_0.out);(case side3=>exact z34_28);(case side4=>exact HC1_2.out);rintro e w13 ⟨rfl,hb⟩;replace BK726:=Aside0.mk (blk_below (g:=gb726) (o:=.cells #[.slice A1_0 l1_0.length c1_0,.bool a1_1,.slice A1_2 l1_2.length c1_2] 53 (0,0)) z34_1 hb);replace BK727:=Aside0.mk (blk_below (g:=gb727) (o:=.cells #[.slice A2_0 l2_0.length c2_0,.int .i64 a2_1] 65 (0,0)) z34_3 hb);replace HB:=Aside0.mk (below_step z34_2 hb);(try clear hb);(try clear hb2);(try clear hk);(try clear hi);obtain ⟨hcz14_0,hcz14_1,hfz14_0,hfz14_1⟩:=cz2_ BK727.out))
   go_meet
   case rel=>exact ⟨_,(decide ((l2_0.length:Int) > 20)),z9_3,H',⟨(by first|omega|exact Nat.le_refl _)⟩,⟨z34_1⟩,⟨z34_3⟩,⟨z34_2⟩⟩
  replace c10:=Bool.eq_false_iff.mpr c10
  subst c10
  have H1:(w28_GossipLacks.j0 k l0 true l1_0 a1_1 l1_2 l2_0 a2_1)=some r:=by rw [if_neg (show ¬ (false=true) by decide)] at H;exact H
  clear H
  have H:=H1
  clear H1
  have H':=Aside0.mk H
  clear H
  go_wp2_with (first|((with_reducible refine gate_callee (f:=16) rfl ?_);refine goesL_ (some 11) rfl rfl Try.func16 z3_17 rfl #[.slice A0 l0.length c0] rfl z6_5 ?_;(with_reducible refine(w05_Light.calls k _ _ l0 true _ ?side1 ?side2 A7.out).mono ?_);(case side1=>exact z10_9);(case side2=>exact HC0.out);rintro e w' ⟨rfl,⟨nd,rfl⟩⟩;refine ⟨_,rfl,?_⟩;have hnb15:=NB726_727.out;have hnc15:=NB727_726.out;obtain ⟨hcz16_0,hcz16_1,hcz16_2,hfz16_0,hfz16_1,hfz16_2⟩:=cz3_ BK726.out)|(go_at_call 39;(with_reducible refine(w28_Light.calls k _ _ l1_0 a1_1 _ _ l1_2 false _ ?side1 ?side2 ?side3 ?side4 A9.out).mono ?_);(case side1=>exact z34_27);(case side2=>exact HC1_0.out);(case side3=>exact z34_28);(case side4=>exact HC1_2.out);rintro e w17 ⟨rfl,hb⟩;replace BK726:=Aside0.mk (blk_below (g:=gb726) (o:=.cells #[.slice A1_0 l1_0.length c1_0,.bool a1_1,.slice A1_2 l1_2.length c1_2] 53 (0,0)) z34_1 hb);replace BK727:=Aside0.mk (blk_below (g:=gb727) (o:=.cells #[.slice A2_0 l2_0.length c2_0,.int .i64 a2_1] 65 (0,0)) z34_3 hb);replace HB:=Aside0.mk (below_step z34_2 hb);(try clear hb);(try clear hb2);(try clear hk);(try clear hi)))
  go_meet
  case rel=>exact ⟨_,(true),z9_3,H',⟨(by first|omega|exact Nat.le_refl _)⟩,⟨z34_1⟩,⟨z34_3⟩,⟨z34_2⟩⟩
 case rest =>
 clear HC4
 try clear c1
 try clear c2
 try clear p2
 try clear c8
 try clear c10
 try clear c11
 try clear c15
 try clear c16
 try clear hcz12_0 hcz12_1 hcz12_2
 try clear hcz14_0 hcz14_1
 try clear hcz16_0 hcz16_1 hcz16_2
 try clear hfz12_0 hfz12_1 hfz12_2
 try clear hfz14_0 hfz14_1
 try clear hfz16_0 hfz16_1 hfz16_2
 obtain ⟨kq,x23_3,rfl,HA,HJ3,BK726,BK727,HB⟩:=hcut
 cases kq with
 | zero=>exact absurd HA.out (by simp [w28_GossipLacks.j0])
 | succ kj3 =>
 have H:=HA.out
 clear HA
 simp only [w28_GossipLacks.j0] at H
 by_cases c18:x23_3=true
 ·subst c18
  have H1:((w28_awake.f kj3).bind fun t730=>(some t730))=some r:=by rw [if_pos rfl] at H;exact H
  clear H
  have H:=H1
  clear H1
  replace H:=Option.bind_eq_some_iff.mp H
  obtain ⟨t730,A190,H⟩:=H
  replace H:(some t730)=some r:=H
  have A19:=Aside0.mk A190
  clear A190
  obtain rfl:=Option.some.inj H
  go_wp2_with (first|((with_reducible refine gate_callee (f:=29) rfl ?_);refine goesL_ (some 24) rfl rfl Try.func29 z3_17 rfl #[] rfl z6_5 ?_;(with_reducible refine(w28_awake.calls kj3  t730 _ A19.out).mono ?_);rintro e w20 ⟨rfl,hb⟩;refine ⟨_,rfl,?_⟩;replace BK726:=Aside0.mk (blk_below (g:=gb726) (o:=.cells #[.slice A1_0 l1_0.length c1_0,.bool a1_1,.slice A1_2 l1_2.length c1_2] 53 (0,0)) z34_1 hb);replace BK727:=Aside0.mk (blk_below (g:=gb727) (o:=.cells #[.slice A2_0 l2_0.length c2_0,.int .i64 a2_1] 65 (0,0)) z34_3 hb);replace HB:=Aside0.mk (below_step z34_2 hb);(try clear hb);(try clear hb2);(try clear hk);(try clear hi)))
  go_ret
  exact ⟨z9_2,z34_2⟩
 replace c18:=Bool.eq_false_iff.mpr c18
 subst c18
 have H1:((gossip_Answer.f kj3 l0 l2_0 l1_0 a1_1 l1_2).bind fun bt731=>((r28_Lacks.f kj3 l0 l1_0 16).bind fun t740=>((gossip_Lacks.f kj3 l0 l1_0 a2_1).bind fun t743=>((r28_Lacks.f kj3 l0 l1_0 a2_1).bind fun t746=>((r05_All.f kj3 t743 t746).bind fun t749=>(if t749=true then((r03_May.f kj3 l2_0).bind fun t750=>(if t750=true then(if a1_1=true then(w28_GossipLacks.j1 kj3 bt731.2.2.2 t740 ((t740.length:Int) == 0) l2_0 a2_1 bt731.1 bt731.2.1 bt731.2.2.1) else(w28_GossipLacks.j1 kj3 bt731.2.2.2 t740 true l2_0 a2_1 bt731.1 bt731.2.1 bt731.2.2.1)) else(w28_GossipLacks.j1 kj3 bt731.2.2.2 t740 true l2_0 a2_1 bt731.1 bt731.2.1 bt731.2.2.1))) else(some false)))))))=some r:=by rw [if_neg (show ¬ (false=true) by decide)] at H;exact H
 clear H
 have H:=H1
 clear H1
 replace H:=Option.bind_eq_some_iff.mp H
 obtain ⟨⟨t731,t734,t735,t738⟩,A210,H⟩:=H
 replace H:((r28_Lacks.f kj3 l0 l1_0 16).bind fun t740=>((gossip_Lacks.f kj3 l0 l1_0 a2_1).bind fun t743=>((r28_Lacks.f kj3 l0 l1_0 a2_1).bind fun t746=>((r05_All.f kj3 t743 t746).bind fun t749=>(if t749=true then((r03_May.f kj3 l2_0).bind fun t750=>(if t750=true then(if a1_1=true then(w28_GossipLacks.j1 kj3 t738 t740 ((t740.length:Int) == 0) l2_0 a2_1 t731 t734 t735) else(w28_GossipLacks.j1 kj3 t738 t740 true l2_0 a2_1 t731 t734 t735)) else(w28_GossipLacks.j1 kj3 t738 t740 true l2_0 a2_1 t731 t734 t735))) else(some false))))))=some r:=H
 have A21:=Aside0.mk A210
 clear A210
 replace H:=Option.bind_eq_some_iff.mp H
 obtain ⟨t740,A220,H⟩:=H
 replace H:((gossip_Lacks.f kj3 l0 l1_0 a2_1).bind fun t743=>((r28_Lacks.f kj3 l0 l1_0 a2_1).bind fun t746=>((r05_All.f kj3 t743 t746).bind fun t749=>(if t749=true then((r03_May.f kj3 l2_0).bind fun t750=>(if t750=true then(if a1_1=true then(w28_GossipLacks.j1 kj3 t738 t740 ((t740.length:Int) == 0) l2_0 a2_1 t731 t734 t735) else(w28_GossipLacks.j1 kj3 t738 t740 true l2_0 a2_1 t731 t734 t735)) else(w28_GossipLacks.j1 kj3 t738 t740 true l2_0 a2_1 t731 t734 t735))) else(some false)))))=some r:=H
 have A22:=Aside0.mk A220
 clear A220
 replace H:=Option.bind_eq_some_iff.mp H
 obtain ⟨t743,A230,H⟩:=H
 replace H:((r28_Lacks.f kj3 l0 l1_0 a2_1).bind fun t746=>((r05_All.f kj3 t743 t746).bind fun t749=>(if t749=true then((r03_May.f kj3 l2_0).bind fun t750=>(if t750=true then(if a1_1=true then(w28_GossipLacks.j1 kj3 t738 t740 ((t740.length:Int) == 0) l2_0 a2_1 t731 t734 t735) else(w28_GossipLacks.j1 kj3 t738 t740 true l2_0 a2_1 t731 t734 t735)) else(w28_GossipLacks.j1 kj3 t738 t740 true l2_0 a2_1 t731 t734 t735))) else(some false))))=some r:=H
 have A23:=Aside0.mk A230
 clear A230
 replace H:=Option.bind_eq_some_iff.mp H
 obtain ⟨t746,A240,H⟩:=H
 replace H:((r05_All.f kj3 t743 t746).bind fun t749=>(if t749=true then((r03_May.f kj3 l2_0).bind fun t750=>(if t750=true then(if a1_1=true then(w28_GossipLacks.j1 kj3 t738 t740 ((t740.length:Int) == 0) l2_0 a2_1 t731 t734 t735) else(w28_GossipLacks.j1 kj3 t738 t740 true l2_0 a2_1 t731 t734 t735)) else(w28_GossipLacks.j1 kj3 t738 t740 true l2_0 a2_1 t731 t734 t735))) else(some false)))=some r:=H
 have A24:=Aside0.mk A240
 clear A240
 replace H:=Option.bind_eq_some_iff.mp H
 obtain ⟨t749,A250,H⟩:=H
 replace H:(if t749=true then((r03_May.f kj3 l2_0).bind fun t750=>(if t750=true then(if a1_1=true then(w28_GossipLacks.j1 kj3 t738 t740 ((t740.length:Int) == 0) l2_0 a2_1 t731 t734 t735) else(w28_GossipLacks.j1 kj3 t738 t740 true l2_0 a2_1 t731 t734 t735)) else(w28_GossipLacks.j1 kj3 t738 t740 true l2_0 a2_1 t731 t734 t735))) else(some false))=some r:=H
 have A25:=Aside0.mk A250
 clear A250
 by_cases c26:t749=true
 rotate_left
 ·replace c26:=Bool.eq_false_iff.mpr c26
  subst c26
  have H1:(some false)=some r:=by rw [if_neg (show ¬ (false=true) by decide)] at H;exact H
  exact absurd (HRT_.out.symm.trans (Option.some.inj H1).symm) (by simp)
 subst c26
 have H1:((r03_May.f kj3 l2_0).bind fun t750=>(if t750=true then(if a1_1=true then(w28_GossipLacks.j1 kj3 t738 t740 ((t740.length:Int) == 0) l2_0 a2_1 t731 t734 t735) else(w28_GossipLacks.j1 kj3 t738 t740 true l2_0 a2_1 t731 t734 t735)) else(w28_GossipLacks.j1 kj3 t738 t740 true l2_0 a2_1 t731 t734 t735)))=some r:=by rw [if_pos rfl] at H;exact H
 clear H
 have H:=H1
 clear H1
 have HC27:=Aside0.mk H
 clear H
 have hnb28:=NB727_726.out
 have hnc28:=NB726_727.out
 obtain ⟨hcz29_0,hcz29_1,hfz29_0,hfz29_1⟩:=cz2_ BK727.out;obtain ⟨hcz30_0,hcz30_1,hcz30_2,hfz30_0,hfz30_1,hfz30_2⟩:=cz3_ BK726.out
 try go_wp2_with (first|((with_reducible refine gate_callee (f:=40) rfl ?_);refine goesL_ (some 30) rfl rfl Try.func40 z3_17 rfl #[.slice A0 l0.length c0,.slice A2_0 l2_0.length c2_0,.agg #[.slice A1_0 l1_0.length c1_0,.bool a1_1,.slice A1_2 l1_2.length c1_2]] rfl z6_5 ?_;(with_reducible refine(gossip_Answer.calls kj3 _ _ l0 _ _ l2_0 _ _ l1_0 a1_1 _ _ l1_2 t731 t734 t735 t738 _ ?side1 ?side2 ?side3 ?side4 ?side5 ?side6 ?side7 ?side8 A21.out).mono ?_);(case side1=>exact z10_9);(case side2=>exact HC0.out);(case side3=>exact z32_17);(case side4=>exact HC2_0.out);(case side5=>exact z30_13);(case side6=>exact HC1_0.out);(case side7=>repeat(first|exact(Kd.C_below HR1_2.out HB.out)|(with_reducible refine Kd.C_alloc ?_ _)|(with_reducible refine Kd.C_drewN ?_ _)|(with_reducible refine Kd.C_drew ?_)));(case side8=>exact HC1_2.out);rintro e w31 ⟨v732,v736,rfl,ho0,ho1,hb⟩;refine ⟨_,rfl,?_⟩;have HO733:=Aside0.mk (Kd.R_lower (Kd.R_mono (ok':=fun k_=>True) ho0 (fun _ hk_=>trivial)) (below_size z34_2));have HO737:=Aside0.mk (Kd.N_lower (Kd.N_mono (ok':=fun k_=>some k_≠(v732:Value).ownBlock∧k_≠gb726∧k_≠gb727) ho1 (fun k_ hk_=>⟨hk_.2,(Kd.freshB (g:=gb726) (o:=.cells #[.slice A1_0 l1_0.length c1_0,.bool a1_1,.slice A1_2 l1_2.length c1_2] 53 (0,0)) z34_1 k_ hk_.1),(Kd.freshB (g:=gb727) (o:=.cells #[.slice A2_0 l2_0.length c2_0,.int .i64 a2_1] 65 (0,0)) z34_3 k_ hk_.1)⟩)) (below_size z34_2));replace BK726:=Aside0.mk (blk_below (g:=gb726) (o:=.cells #[.slice A1_0 l1_0.length c1_0,.bool a1_1,.slice A1_2 l1_2.length c1_2] 53 (0,0)) z34_1 hb);replace BK727:=Aside0.mk (blk_below (g:=gb727) (o:=.cells #[.slice A2_0 l2_0.length c2_0,.int .i64 a2_1] 65 (0,0)) z34_3 hb);replace HB:=Aside0.mk (below_step z34_2 hb);(try clear hb);(try clear hb2);(try clear hk);(try clear hi);(try clear ho0);(try clear ho1))|((with_reducible refine gate_dst (N:=7) rfl ?_);(try(refine gate_guard (by rfl) ?_;dsimp only));refine box_event ?hg (N:=7) ?hd (cs:=#[.slice none 0 0,.bool false,.slice none 0 0]) (t:=53) ?hr ?_;(case hd=>rfl);(case hg=>rfl);(case hr=>exact z10_10);intro gb739 hg w32 hbox hb;replace HO733:=Aside0.mk (Kd.R_below z34_7 hb);replace HO737:=Aside0.mk (Kd.N_below (Kd.N_elderB z34_8 gb739 (Nat.le_of_eq hg.symm)) hb);have BK739:=Aside0.mk (hbox);have GW739:=Aside0.mk ((by rw [hg];exact(below_size z34_2):w.heap.size≤gb739));have GE739:=Aside0.mk ((by rw [hg];exact(below_size z34_2):w.heap.size≤gb739));replace HB:=Aside0.mk (below_step z34_2 hb);have NB726_739:=Aside0.mk ((by rw [hg];exact Nat.ne_of_lt (blk_lt (g:=gb726) (o:=.cells #[.slice A1_0 l1_0.length c1_0,.bool a1_1,.slice A1_2 l1_2.length c1_2] 53 (0,0)) z34_1):gb726≠gb739));have NB739_726:=Aside0.mk ((by rw [hg];exact Nat.ne_of_gt (blk_lt (g:=gb726) (o:=.cells #[.slice A1_0 l1_0.length c1_0,.bool a1_1,.slice A1_2 l1_2.length c1_2] 53 (0,0)) z34_1):gb739≠gb726));replace BK726:=Aside0.mk (blk_below (g:=gb726) (o:=.cells #[.slice A1_0 l1_0.length c1_0,.bool a1_1,.slice A1_2 l1_2.length c1_2] 53 (0,0)) z34_1 hb);have NB727_739:=Aside0.mk ((by rw [hg];exact Nat.ne_of_lt (blk_lt (g:=gb727) (o:=.cells #[.slice A2_0 l2_0.length c2_0,.int .i64 a2_1] 65 (0,0)) z34_3):gb727≠gb739));have NB739_727:=Aside0.mk ((by rw [hg];exact Nat.ne_of_gt (blk_lt (g:=gb727) (o:=.cells #[.slice A2_0 l2_0.length c2_0,.int .i64 a2_1] 65 (0,0)) z34_3):gb739≠gb727));replace BK727:=Aside0.mk (blk_below (g:=gb727) (o:=.cells #[.slice A2_0 l2_0.length c2_0,.int .i64 a2_1] 65 (0,0)) z34_3 hb);clear hb hbox hg;obtain ⟨Ao33,co33,eo33⟩:=Kd.R_slice HO733.out;subst eo33;have hnb34:=NB739_726.out;have hnc34:=NB726_739.out;have hnb35:=NB739_727.out;have hnc35:=NB727_739.out;obtain ⟨hcz36_0,hcz36_1,hcz36_2,hfz36_0,hfz36_1,hfz36_2⟩:=cz3_ BK739.out;obtain ⟨Ao37,co37,eo37⟩:=Kd.N_slice HO737.out;subst eo37)|((with_reducible refine gate_store (t:=53) (p:=7) rfl ?_);refine store_event (t:=53) (p:=7) (v:=?vo_w38) (w1:=(((w32.setCell ⟨gb739,0,none⟩ (.slice Ao33 t731.length co33)).setCell ⟨gb739,1,none⟩ (.bool t734)).setCell ⟨gb739,2,none⟩ (.slice Ao37 t735.length co37))) ?hg ?ho ?hn ?hr ?_;(case ho=>rfl);(case hg=>rfl);(case hn=>rfl);(case hr=>exact z10_10);intro w38 hw;have n0_:Aside0 (Kd.R (Kd.int .i64) 3 w38 w.heap.size (fun _=>True) (.slice Ao33 t731.length co33) t731):=⟨(by rw [hw];exact(by(with_reducible repeat(first|apply Kd.R_alloc|apply Kd.R_drewN|apply Kd.R_drew));exact Kd.R_mono (Kd.R_far (p:=⟨gb739,2,none⟩) (Kd.R_far (p:=⟨gb739,1,none⟩) (Kd.R_far (p:=⟨gb739,0,none⟩) (Kd.R_types HO733.out BK739.out (by decide)) (fun _ hk=>hk.2) (.slice Ao33 t731.length co33)) (fun _ hk=>hk.2) (.bool t734)) (fun _ hk=>hk.2) (.slice Ao37 t735.length co37)) (fun _ hk=>trivial)))⟩;have n1_:Aside0 (Kd.N k30 30 w38 w.heap.size (fun k_=>some k_≠(.slice Ao33 t731.length co33:Value).ownBlock∧k_≠gb726∧k_≠gb727∧k_≠gb739) (.slice Ao37 t735.length co37) t735):=⟨(by rw [hw];exact(by(with_reducible repeat(first|apply Kd.N_alloc|apply Kd.N_drewN|apply Kd.N_drew));exact Kd.N_mono (Kd.N_far (p:=⟨gb739,2,none⟩) (Kd.N_far (p:=⟨gb739,1,none⟩) (Kd.N_far (p:=⟨gb739,0,none⟩) (Kd.N_mono HO737.out (fun k_ hk=>(⟨hk,hk.2⟩:_∧k_≠gb739))) (fun _ hk=>hk.2) (.slice Ao33 t731.length co33)) (fun _ hk=>hk.2) (.bool t734)) (fun _ hk=>hk.2) (.slice Ao37 t735.length co37)) (fun _ hk=>⟨hk.1.1.1,⟨hk.1.1.2.1,⟨hk.1.1.2.2,hk.1.2⟩⟩⟩)))⟩;have n2_:Aside0 (w38.heap[gb726]? = some (.cells #[.slice A1_0 l1_0.length c1_0,.bool a1_1,.slice A1_2 l1_2.length c1_2] 53 (0,0))):=⟨(by rw [hw];exact(by(with_reducible repeat(first|refine blk_drewN ?_ _|refine blk_drew ?_|refine blk_alloc ?_ _));refine blk_far ?_ NB726_739.out _;(with_reducible repeat(first|refine blk_drewN ?_ _|refine blk_drew ?_|refine blk_alloc ?_ _));refine blk_far ?_ NB726_739.out _;(with_reducible repeat(first|refine blk_drewN ?_ _|refine blk_drew ?_|refine blk_alloc ?_ _));refine blk_far ?_ NB726_739.out _;(with_reducible repeat(first|refine blk_drewN ?_ _|refine blk_drew ?_|refine blk_alloc ?_ _));exact BK726.out))⟩;have n3_:Aside0 (w38.heap[gb727]? = some (.cells #[.slice A2_0 l2_0.length c2_0,.int .i64 a2_1] 65 (0,0))):=⟨(by rw [hw];exact(by(with_reducible repeat(first|refine blk_drewN ?_ _|refine blk_drew ?_|refine blk_alloc ?_ _));refine blk_far ?_ NB727_739.out _;(with_reducible repeat(first|refine blk_drewN ?_ _|refine blk_drew ?_|refine blk_alloc ?_ _));refine blk_far ?_ NB727_739.out _;(with_reducible repeat(first|refine blk_drewN ?_ _|refine blk_drew ?_|refine blk_alloc ?_ _));refine blk_far ?_ NB727_739.out _;(with_reducible repeat(first|refine blk_drewN ?_ _|refine blk_drew ?_|refine blk_alloc ?_ _));exact BK727.out))⟩;have n4_:Aside0 (w38.heap[gb739]? = some (.cells #[.slice Ao33 t731.length co33,.bool t734,.slice Ao37 t735.length co37] 53 (0,0))):=⟨(by rw [hw];exact(by(with_reducible repeat(first|refine blk_drewN ?_ _|refine blk_drew ?_|refine blk_alloc ?_ _));refine blk_put (cs:=#[.slice Ao33 t731.length co33,.bool t734,.slice none 0 0]) ?_ 2 _ rfl;(with_reducible repeat(first|refine blk_drewN ?_ _|refine blk_drew ?_|refine blk_alloc ?_ _));refine blk_put (cs:=#[.slice Ao33 t731.length co33,.bool false,.slice none 0 0]) ?_ 1 _ rfl;(with_reducible repeat(first|refine blk_drewN ?_ _|refine blk_drew ?_|refine blk_alloc ?_ _));refine blk_put (cs:=#[.slice none 0 0,.bool false,.slice none 0 0]) ?_ 0 _ rfl;(with_reducible repeat(first|refine blk_drewN ?_ _|refine blk_drew ?_|refine blk_alloc ?_ _));exact BK739.out))⟩;have n5_:Aside0 (Below w.heap.size w w38):=⟨(by rw [hw];exact z34_0)⟩;clear hw;clear HO733;clear HO737;clear BK726;clear BK727;clear BK739;clear HB;have HO733:=n0_;have HO737:=n1_;have BK726:=n2_;have BK727:=n3_;have BK739:=n4_;have HB:=n5_;clear n0_ n1_ n2_ n3_ n4_ n5_;obtain ⟨hcz39_0,hcz39_1,hcz39_2,hfz39_0,hfz39_1,hfz39_2⟩:=cz3_ BK726.out)|((with_reducible refine gate_callee (f:=41) rfl ?_);refine goesL_ (some 36) rfl rfl Try.func41 z3_17 rfl #[.slice A0 l0.length c0,.slice A1_0 l1_0.length c1_0,.int .i64 16] rfl z6_5 ?_;(with_reducible refine(r28_Lacks.calls kj3 (fun k_=>k_<w.heap.size) _ _ l0 _ _ l1_0 16 t740 _ ?side1 ?side2 ?side3 A22.out).mono ?_);(case side1=>exact Kd.V_mk HC0.out (Kd.F_below (Kd.C_F k30_heap HR0.out) z34_0));(case side2=>exact z30_13);(case side3=>exact HC1_0.out);rintro e w40 ⟨v741,rfl,ho0,hb⟩;refine ⟨_,rfl,?_⟩;have HO742:=Aside0.mk (Kd.N_lower (Kd.N_mono (ok':=fun k_=>some k_≠(.slice Ao33 t731.length co33:Value).ownBlock∧some k_≠(.slice Ao37 t735.length co37:Value).ownBlock∧k_≠gb726∧k_≠gb727∧k_≠gb739) ho0 (fun k_ hk_=>⟨Or.elim hk_ (fun hs_=>fun e_=>Nat.not_le.2 hs_ (Kd.R_base HO733.out k_ e_.symm)) (fun hn_=>(Kd.fresh' (Kd.R_lt z34_7) k_ hn_)),Or.elim hk_ (fun hs_=>fun e_=>Nat.not_le.2 hs_ (Kd.N_base HO737.out k_ e_.symm)) (fun hn_=>(Kd.fresh' (Kd.N_lt z34_8) k_ hn_)),Or.elim hk_ (fun hs_=>fun e_=>Nat.not_le.2 hs_ (by rw [e_];exact GW726.out)) (fun hn_=>(Kd.freshB (g:=gb726) (o:=.cells #[.slice A1_0 l1_0.length c1_0,.bool a1_1,.slice A1_2 l1_2.length c1_2] 53 (0,0)) z34_1 k_ hn_)),Or.elim hk_ (fun hs_=>fun e_=>Nat.not_le.2 hs_ (by rw [e_];exact GW727.out)) (fun hn_=>(Kd.freshB (g:=gb727) (o:=.cells #[.slice A2_0 l2_0.length c2_0,.int .i64 a2_1] 65 (0,0)) z34_3 k_ hn_)),Or.elim hk_ (fun hs_=>fun e_=>Nat.not_le.2 hs_ (by rw [e_];exact GW739.out)) (fun hn_=>(Kd.freshB (g:=gb739) (o:=.cells #[.slice Ao33 t731.length co33,.bool t734,.slice Ao37 t735.length co37] 53 (0,0)) z34_6 k_ hn_))⟩)) (below_size z34_0));replace HO733:=Aside0.mk (Kd.R_below z34_7 hb);replace HO737:=Aside0.mk (Kd.N_elder' z34_8 (Kd.N_base ho0) hb);replace BK726:=Aside0.mk (blk_below (g:=gb726) (o:=.cells #[.slice A1_0 l1_0.length c1_0,.bool a1_1,.slice A1_2 l1_2.length c1_2] 53 (0,0)) z34_1 hb);replace BK727:=Aside0.mk (blk_below (g:=gb727) (o:=.cells #[.slice A2_0 l2_0.length c2_0,.int .i64 a2_1] 65 (0,0)) z34_3 hb);replace BK739:=Aside0.mk (blk_below (g:=gb739) (o:=.cells #[.slice Ao33 t731.length co33,.bool t734,.slice Ao37 t735.length co37] 53 (0,0)) z34_6 hb);replace HB:=Aside0.mk (below_step z34_0 hb);(try clear hb);(try clear hb2);(try clear hk);(try clear hi);(try clear ho0)))
 have n0_:=Aside0.mk (Kd.R_drew HO733.out)
 have n1_:=Aside0.mk (Kd.N_drew HO737.out)
 have n2_:=Aside0.mk (Kd.N_drew HO742.out)
 have n3_:=Aside0.mk (blk_drew BK726.out)
 have n4_:=Aside0.mk (blk_drew BK727.out)
 have n5_:=Aside0.mk (blk_drew BK739.out)
 have n6_:=Aside0.mk (below_drew1 HB.out)
 clear HO733
 clear HO737
 clear HO742
 clear BK726
 clear BK727
 clear BK739
 clear HB
 have HO733:=n0_
 have HO737:=n1_
 have HO742:=n2_
 have BK726:=n3_
 have BK727:=n4_
 have BK739:=n5_
 have HB:=n6_
 clear n0_ n1_ n2_ n3_ n4_ n5_ n6_
 refine start_ (n:=14) (S:=fun w'=>w'.cell? ⟨gb726,0,none⟩=some (.slice A1_0 l1_0.length c1_0)∧w'.cell? ⟨gb726,1,none⟩=some (.bool a1_1)∧w'.cell? ⟨gb726,2,none⟩=some (.slice A1_2 l1_2.length c1_2)∧w'.cell? ⟨gb727,0,none⟩=some (.slice A2_0 l2_0.length c2_0)∧w'.cell? ⟨gb727,1,none⟩=some (.int .i64 a2_1)) (ds:=[]) #[false,false,false,false,false,false,false,false,false,false,false,false,false,false] z3_17 rfl rfl ⟨(blk_cell BK726.out 0).trans rfl,(blk_cell BK726.out 1).trans rfl,(blk_cell BK726.out 2).trans rfl,(blk_cell BK727.out 0).trans rfl,(blk_cell BK727.out 1).trans rfl⟩ (fun hHeld=>?_);refine with_tabW w28_GossipLacks.tab5 w28_GossipLacks.bits5 (fun HT_ HW_=>?_)
 generalize w40.drew=w41 at HO733 HO737 HO742 BK726 BK727 BK739 HB hHeld ⊢
 refine pure_ (i:=0) (N:=some 37) (v:=?_) (a':=?_) #[true,false,false,false,false,false,false,false,false,false,false,false,false,false] rfl rfl (any_of HT_.out z3_17) (fun _ _ _ h=>h) (Or.inl ⟨(by rfl),?_⟩) ?_ ?_
 rotate_left
 ·intro w'
  go_simp
  with_reducible rfl
 rotate_left
 ·exact z3_3
 refine pure_ (i:=1) (N:=some 38) (v:=?_) (a':=?_) #[true,true,false,false,false,false,false,false,false,false,false,false,false,false] rfl rfl (any_of HT_.out z3_17) (fun _ _ _ h=>h) (Or.inl ⟨(by rfl),?_⟩) ?_ ?_
 rotate_left
 ·intro w'
  go_simp
  with_reducible rfl
 rotate_left
 ·exact z3_3
 refine pure_ (i:=3) (N:=some 40) (v:=?_) (a':=?_) #[true,true,false,true,false,false,false,false,false,false,false,false,false,false] rfl rfl (any_of HT_.out z3_17) (fun _ _ _ h=>h) (Or.inl ⟨(by rfl),?_⟩) ?_ ?_
 rotate_left
 ·intro w'
  go_simp
  with_reducible rfl
 rotate_left
 ·exact z3_3
 refine pure_ (i:=6) (N:=some 43) (v:=?_) (a':=?_) #[true,true,false,true,false,false,true,false,false,false,false,false,false,false] rfl rfl (any_of HT_.out z3_17) (fun _ _ _ h=>h) (Or.inl ⟨(by rfl),?_⟩) ?_ ?_
 rotate_left
 ·intro w'
  go_simp
  with_reducible rfl
 rotate_left
 ·exact z3_3
 refine pure_ (i:=7) (N:=some 44) (v:=?_) (a':=?_) #[true,true,false,true,false,false,true,true,false,false,false,false,false,false] rfl rfl (any_of HT_.out z3_17) (fun _ _ _ h=>h) (Or.inl ⟨(by rfl),?_⟩) ?_ ?_
 rotate_left
 ·intro w'
  go_simp
  with_reducible rfl
 rotate_left
 ·exact z3_3
 refine pure_ (i:=9) (N:=some 46) (v:=?_) (a':=?_) #[true,true,false,true,false,false,true,true,false,true,false,false,false,false] rfl rfl (any_of HT_.out z3_17) (fun _ _ _ h=>h) (Or.inl ⟨(by rfl),?_⟩) ?_ ?_
 rotate_left
 ·intro w'
  go_simp
  with_reducible rfl
 rotate_left
 ·exact z3_3
 refine take_ (i:=2) (N:=some 39) (v:=?_) (a':=?_) #[true,true,true,true,false,false,true,true,false,true,false,false,false,false] rfl rfl (take_ofW HT_.out HW_.out z3_17) (fun _ _ _ h=>h) (Or.inl ⟨(by rfl),?_⟩) hHeld ?_ ?_
 rotate_left
 ·rintro w' ⟨s0,s1,s2,s3,s4⟩
  go_simp
  with_reducible rfl
 rotate_left
 ·exact z3_3
 refine take_ (i:=4) (N:=some 41) (v:=?_) (a':=?_) #[true,true,true,true,true,false,true,true,false,true,false,false,false,false] rfl rfl (take_ofW HT_.out HW_.out z3_17) (fun _ _ _ h=>h) (Or.inl ⟨(by rfl),?_⟩) hHeld ?_ ?_
 rotate_left
 ·rintro w' ⟨s0,s1,s2,s3,s4⟩
  go_simp
  with_reducible rfl
 rotate_left
 ·exact z3_3
 refine take_ (i:=8) (N:=some 45) (v:=?_) (a':=?_) #[true,true,true,true,true,false,true,true,true,true,false,false,false,false] rfl rfl (take_ofW HT_.out HW_.out z3_17) (fun _ _ _ h=>h) (Or.inl ⟨(by rfl),?_⟩) hHeld ?_ ?_
 rotate_left
 ·rintro w' ⟨s0,s1,s2,s3,s4⟩
  go_simp
  with_reducible rfl
 rotate_left
 ·exact z3_3
 refine take_ (i:=10) (N:=some 47) (v:=?_) (a':=?_) #[true,true,true,true,true,false,true,true,true,true,true,false,false,false] rfl rfl (take_ofW HT_.out HW_.out z3_17) (fun _ _ _ h=>h) (Or.inl ⟨(by rfl),?_⟩) hHeld ?_ ?_
 rotate_left
 ·rintro w' ⟨s0,s1,s2,s3,s4⟩
  go_simp
  with_reducible rfl
 rotate_left
 ·exact z3_3
 refine one_ (i:=5) (N:=some 42) #[true,true,true,true,true,true,true,true,true,true,true,false,false,false] rfl rfl (one_of HT_.out z3_17) (by decide) (fun K hK=>?_)
 refine goes_ Try.func36 z3_17 rfl #[.slice A0 l0.length c0,.slice A1_0 l1_0.length c1_0,.int .i64 a2_1] (by rfl) rfl rfl z6_5 ?_
 with_reducible refine(gossip_Lacks.calls kj3 _ _ l0 _ _ l1_0 a2_1 t743 _ ?side1 ?side2 ?side3 ?side4 A23.out).mono ?_
 (case side1=>exact z10_9)
 (case side2=>exact HC0.out)
 (case side3=>exact z30_13)
 (case side4=>exact HC1_0.out)
 rintro e w42 ⟨v744,rfl,ho0,hb⟩
 refine ⟨_,rfl,?_⟩
 have n0_:=Aside0.mk (Kd.R_below z34_7 hb)
 have n1_:=Aside0.mk (Kd.N_elder' z34_8 (Kd.N_base ho0) hb)
 have n2_:=Aside0.mk (Kd.N_elder' z34_17 (Kd.N_base ho0) hb)
 have n3_:=Aside0.mk (Kd.N_lower (Kd.N_mono (ok':=fun k_=>some k_≠(.slice Ao33 t731.length co33:Value).ownBlock∧some k_≠(.slice Ao37 t735.length co37:Value).ownBlock∧some k_≠(v741:Value).ownBlock∧k_≠gb726∧k_≠gb727∧k_≠gb739) ho0 (fun k_ hk_=>⟨(Kd.fresh' (Kd.R_lt z34_7) k_ hk_),(Kd.fresh' (Kd.N_lt z34_8) k_ hk_),(Kd.fresh' (Kd.N_lt z34_17) k_ hk_),(Kd.freshB (g:=gb726) (o:=.cells #[.slice A1_0 l1_0.length c1_0,.bool a1_1,.slice A1_2 l1_2.length c1_2] 53 (0,0)) z34_1 k_ hk_),(Kd.freshB (g:=gb727) (o:=.cells #[.slice A2_0 l2_0.length c2_0,.int .i64 a2_1] 65 (0,0)) z34_3 k_ hk_),(Kd.freshB (g:=gb739) (o:=.cells #[.slice Ao33 t731.length co33,.bool t734,.slice Ao37 t735.length co37] 53 (0,0)) z34_6 k_ hk_)⟩)) (below_size z34_0))
 have n4_:=Aside0.mk (blk_below (g:=gb726) (o:=.cells #[.slice A1_0 l1_0.length c1_0,.bool a1_1,.slice A1_2 l1_2.length c1_2] 53 (0,0)) z34_1 hb)
 have n5_:=Aside0.mk (blk_below (g:=gb727) (o:=.cells #[.slice A2_0 l2_0.length c2_0,.int .i64 a2_1] 65 (0,0)) z34_3 hb)
 have n6_:=Aside0.mk (blk_below (g:=gb739) (o:=.cells #[.slice Ao33 t731.length co33,.bool t734,.slice Ao37 t735.length co37] 53 (0,0)) z34_6 hb)
 have n7_:=Aside0.mk (below_step z34_0 hb)
 clear HO733
 clear HO737
 clear HO742
 clear BK726
 clear BK727
 clear BK739
 clear HB
 have HO733:=n0_
 have HO737:=n1_
 have HO742:=n2_
 have HO745:=n3_
 have BK726:=n4_
 have BK727:=n5_
 have BK739:=n6_
 have HB:=n7_
 clear n0_ n1_ n2_ n3_ n4_ n5_ n6_ n7_
 (try clear hb)
 (try clear hb2)
 (try clear hk)
 (try clear hi)
 (try clear ho0)
 refine hK.out _ _ ⟨(blk_cell BK726.out 0).trans rfl,(blk_cell BK726.out 1).trans rfl,(blk_cell BK726.out 2).trans rfl,(blk_cell BK727.out 0).trans rfl,(blk_cell BK727.out 1).trans rfl⟩ (fun hHeld=>?_)
 clear hK K
 refine norm_ (a':=?_) ?_ ?_
 rotate_left
 ·show Act.put _ (some 42) _=_;simp only [Act.put,List.setIfInBounds_toArray,List.set_cons_zero,List.set_cons_succ,i64_w,i32_w];rfl
 refine one_ (i:=11) (N:=some 48) #[true,true,true,true,true,true,true,true,true,true,true,true,false,false] rfl rfl (one_of HT_.out z3_17) (by decide) (fun K hK=>?_)
 refine goes_ Try.func41 z3_17 rfl #[.slice A0 l0.length c0,.slice A1_0 l1_0.length c1_0,.int .i64 a2_1] (by rfl) rfl rfl z6_5 ?_
 with_reducible refine(r28_Lacks.calls kj3 (fun k_=>k_<w.heap.size) _ _ l0 _ _ l1_0 a2_1 t746 _ ?side1 ?side2 ?side3 A24.out).mono ?_
 (case side1=>exact Kd.V_mk HC0.out (Kd.F_below (Kd.C_F k30_heap HR0.out) z34_0))
 (case side2=>exact z30_13)
 (case side3=>exact HC1_0.out)
 rintro e w43 ⟨v747,rfl,ho0,hb⟩
 refine ⟨_,rfl,?_⟩
 have n0_:=Aside0.mk (Kd.R_below z34_7 hb)
 have n1_:=Aside0.mk (Kd.N_elder' z34_8 (Kd.N_base ho0) hb)
 have n2_:=Aside0.mk (Kd.N_elder' z34_17 (Kd.N_base ho0) hb)
 have n3_:=Aside0.mk (Kd.N_elder' z34_24 (Kd.N_base ho0) hb)
 have n4_:=Aside0.mk (Kd.N_lower (Kd.N_mono (ok':=fun k_=>some k_≠(.slice Ao33 t731.length co33:Value).ownBlock∧some k_≠(.slice Ao37 t735.length co37:Value).ownBlock∧some k_≠(v741:Value).ownBlock∧some k_≠(v744:Value).ownBlock∧k_≠gb726∧k_≠gb727∧k_≠gb739) ho0 (fun k_ hk_=>⟨Or.elim hk_ (fun hs_=>fun e_=>Nat.not_le.2 hs_ (Kd.R_base HO733.out k_ e_.symm)) (fun hn_=>(Kd.fresh' (Kd.R_lt z34_7) k_ hn_)),Or.elim hk_ (fun hs_=>fun e_=>Nat.not_le.2 hs_ (Kd.N_base HO737.out k_ e_.symm)) (fun hn_=>(Kd.fresh' (Kd.N_lt z34_8) k_ hn_)),Or.elim hk_ (fun hs_=>fun e_=>Nat.not_le.2 hs_ (Kd.N_base HO742.out k_ e_.symm)) (fun hn_=>(Kd.fresh' (Kd.N_lt z34_17) k_ hn_)),Or.elim hk_ (fun hs_=>fun e_=>Nat.not_le.2 hs_ (Kd.N_base HO745.out k_ e_.symm)) (fun hn_=>(Kd.fresh' (Kd.N_lt z34_24) k_ hn_)),Or.elim hk_ (fun hs_=>fun e_=>Nat.not_le.2 hs_ (by rw [e_];exact GW726.out)) (fun hn_=>(Kd.freshB (g:=gb726) (o:=.cells #[.slice A1_0 l1_0.length c1_0,.bool a1_1,.slice A1_2 l1_2.length c1_2] 53 (0,0)) z34_1 k_ hn_)),Or.elim hk_ (fun hs_=>fun e_=>Nat.not_le.2 hs_ (by rw [e_];exact GW727.out)) (fun hn_=>(Kd.freshB (g:=gb727) (o:=.cells #[.slice A2_0 l2_0.length c2_0,.int .i64 a2_1] 65 (0,0)) z34_3 k_ hn_)),Or.elim hk_ (fun hs_=>fun e_=>Nat.not_le.2 hs_ (by rw [e_];exact GW739.out)) (fun hn_=>(Kd.freshB (g:=gb739) (o:=.cells #[.slice Ao33 t731.length co33,.bool t734,.slice Ao37 t735.length co37] 53 (0,0)) z34_6 k_ hn_))⟩)) (below_size z34_0))
 have n5_:=Aside0.mk (blk_below (g:=gb726) (o:=.cells #[.slice A1_0 l1_0.length c1_0,.bool a1_1,.slice A1_2 l1_2.length c1_2] 53 (0,0)) z34_1 hb)
 have n6_:=Aside0.mk (blk_below (g:=gb727) (o:=.cells #[.slice A2_0 l2_0.length c2_0,.int .i64 a2_1] 65 (0,0)) z34_3 hb)
 have n7_:=Aside0.mk (blk_below (g:=gb739) (o:=.cells #[.slice Ao33 t731.length co33,.bool t734,.slice Ao37 t735.length co37] 53 (0,0)) z34_6 hb)
 have n8_:=Aside0.mk (below_step z34_0 hb)
 clear HO733
 clear HO737
 clear HO742
 clear HO745
 clear BK726
 clear BK727
 clear BK739
 clear HB
 have HO733:=n0_
 have HO737:=n1_
 have HO742:=n2_
 have HO745:=n3_
 have HO748:=n4_
 have BK726:=n5_
 have BK727:=n6_
 have BK739:=n7_
 have HB:=n8_
 clear n0_ n1_ n2_ n3_ n4_ n5_ n6_ n7_ n8_
 (try clear hb)
 (try clear hb2)
 (try clear hk)
 (try clear hi)
 (try clear ho0)
 obtain ⟨Ao44,co44,eo44⟩:=Kd.N_slice HO745.out
 (first|subst eo44|(injection eo44 with f1_ f2_ f3_;have f4_:=f1_.symm;have f5_:=f3_.symm;clear f1_ f2_ f3_;subst f4_;subst f5_))
 obtain ⟨Ao45,co45,eo45⟩:=Kd.N_slice HO748.out
 (first|subst eo45|(injection eo45 with f1_ f2_ f3_;have f4_:=f1_.symm;have f5_:=f3_.symm;clear f1_ f2_ f3_;subst f4_;subst f5_))
 refine hK.out _ _ ⟨(blk_cell BK726.out 0).trans rfl,(blk_cell BK726.out 1).trans rfl,(blk_cell BK726.out 2).trans rfl,(blk_cell BK727.out 0).trans rfl,(blk_cell BK727.out 1).trans rfl⟩ (fun hHeld=>?_)
 clear hK K
 refine norm_ (a':=?_) ?_ ?_
 rotate_left
 ·show Act.put _ (some 48) _=_;simp only [Act.put,List.setIfInBounds_toArray,List.set_cons_zero,List.set_cons_succ,i64_w,i32_w];rfl
 refine one_ (i:=12) (N:=some 49) #[true,true,true,true,true,true,true,true,true,true,true,true,true,false] rfl rfl (one_of HT_.out z3_17) (by decide) (fun K hK=>?_)
 refine goes_ Try.func42 z3_17 rfl #[.slice Ao44 t743.length co44,.slice Ao45 t746.length co45] (by rfl) rfl rfl z6_5 ?_
 with_reducible refine(r05_All.calls kj3 _ _ t743 _ _ t746 true _ ?side1 ?side2 ?side3 ?side4 A25.out).mono ?_
 (case side1=>repeat(first|exact(Kd.N_reads' HO745.out).2.2|(with_reducible refine Kd.C_alloc ?_ _)|(with_reducible refine Kd.C_drewN ?_ _)|(with_reducible refine Kd.C_drew ?_)))
 (case side2=>exact(Kd.N_reads' HO745.out).2.1)
 (case side3=>repeat(first|exact(Kd.N_reads' HO748.out).2.2|(with_reducible refine Kd.C_alloc ?_ _)|(with_reducible refine Kd.C_drewN ?_ _)|(with_reducible refine Kd.C_drew ?_)))
 (case side4=>exact(Kd.N_reads' HO748.out).2.1)
 rintro e w46 ⟨rfl,hb⟩
 refine ⟨_,rfl,?_⟩
 have n0_:=Aside0.mk (Kd.R_below z34_7 hb)
 have n1_:=Aside0.mk (Kd.N_below z34_8 hb)
 have n2_:=Aside0.mk (Kd.N_below z34_17 hb)
 have n3_:=Aside0.mk (Kd.N_below z34_24 hb)
 have n4_:=Aside0.mk (Kd.N_below (by(with_reducible repeat(first|apply Kd.N_alloc|apply Kd.N_drewN|apply Kd.N_drew));exact HO748.out) hb)
 have n5_:=Aside0.mk (blk_below (g:=gb726) (o:=.cells #[.slice A1_0 l1_0.length c1_0,.bool a1_1,.slice A1_2 l1_2.length c1_2] 53 (0,0)) z34_1 hb)
 have n6_:=Aside0.mk (blk_below (g:=gb727) (o:=.cells #[.slice A2_0 l2_0.length c2_0,.int .i64 a2_1] 65 (0,0)) z34_3 hb)
 have n7_:=Aside0.mk (blk_below (g:=gb739) (o:=.cells #[.slice Ao33 t731.length co33,.bool t734,.slice Ao37 t735.length co37] 53 (0,0)) z34_6 hb)
 have n8_:=Aside0.mk (below_step z34_0 hb)
 clear HO733
 clear HO737
 clear HO742
 clear HO745
 clear HO748
 clear BK726
 clear BK727
 clear BK739
 clear HB
 have HO733:=n0_
 have HO737:=n1_
 have HO742:=n2_
 have HO745:=n3_
 have HO748:=n4_
 have BK726:=n5_
 have BK727:=n6_
 have BK739:=n7_
 have HB:=n8_
 clear n0_ n1_ n2_ n3_ n4_ n5_ n6_ n7_ n8_
 (try clear hb)
 (try clear hb2)
 (try clear hk)
 (try clear hi)
 refine hK.out _ _ ⟨(blk_cell BK726.out 0).trans rfl,(blk_cell BK726.out 1).trans rfl,(blk_cell BK726.out 2).trans rfl,(blk_cell BK727.out 0).trans rfl,(blk_cell BK727.out 1).trans rfl⟩ (fun hHeld=>?_)
 clear hK K
 refine norm_ (a':=?_) ?_ ?_
 rotate_left
 ·show Act.put _ (some 49) _=_;simp only [Act.put,List.setIfInBounds_toArray,List.set_cons_zero,List.set_cons_succ,i64_w,i32_w];rfl
 refine pure_ (i:=13) (N:=some 50) (v:=?_) (a':=?_) #[true,true,true,true,true,true,true,true,true,true,true,true,true,true] rfl rfl (any_of HT_.out z3_17) (fun _ _ _ h=>h) (Or.inl ⟨(by rfl),?_⟩) ?_ ?_
 rotate_left
 ·intro w'
  go_simp
  with_reducible rfl
 rotate_left
 ·exact z3_3
 refine done_ (done_of HT_.out z3_17) ?_
 go_upto_region 7 with (fail)
 go_cut [64] (fun v64 wc=>∃ (kq:Nat) (x64_26:Bool),v64 = .bool x64_26∧Aside0 (w28_GossipLacks.j1 kq t738 t740 x64_26 l2_0 a2_1 t731 t734 t735=some r)∧Aside0 (kq≤kj3)∧Aside0 (Kd.N k30 30 wc w.heap.size (fun k_=>some k_≠((.slice Ao33 t731.length co33):Value).ownBlock∧some k_≠((.slice Ao37 t735.length co37):Value).ownBlock∧k_≠gb726∧k_≠gb727∧k_≠gb739) v741 t740)∧Aside0 (Kd.R (Kd.int .i64) 3 wc w.heap.size (fun _=>True) (.slice Ao33 t731.length co33) t731)∧Aside0 (Kd.N k30 30 wc w.heap.size (fun k_=>some k_≠(v741:Value).ownBlock∧some k_≠((.slice Ao33 t731.length co33):Value).ownBlock∧k_≠gb726∧k_≠gb727∧k_≠gb739) (.slice Ao37 t735.length co37) t735)∧Aside0 (wc.heap[gb726]? = some (.cells #[(.slice A1_0 l1_0.length c1_0),.bool a1_1,(.slice A1_2 l1_2.length c1_2)] 53 (0,0)))∧Aside0 (wc.heap[gb727]? = some (.cells #[(.slice A2_0 l2_0.length c2_0),.int .i64 a2_1] 65 (0,0)))∧Aside0 (wc.heap[gb739]? = some (.cells #[(.slice Ao33 t731.length co33),.bool t734,(.slice Ao37 t735.length co37)] 53 (0,0)))∧Aside0 (Below w.heap.size w wc))
 case first =>
  have H:=HC27.out
  clear HC27
  replace H:=Option.bind_eq_some_iff.mp H
  obtain ⟨t750,A470,H⟩:=H
  replace H:(if t750=true then(if a1_1=true then(w28_GossipLacks.j1 kj3 t738 t740 ((t740.length:Int) == 0) l2_0 a2_1 t731 t734 t735) else(w28_GossipLacks.j1 kj3 t738 t740 true l2_0 a2_1 t731 t734 t735)) else(w28_GossipLacks.j1 kj3 t738 t740 true l2_0 a2_1 t731 t734 t735))=some r:=H
  have A47:=Aside0.mk A470
  clear A470
  by_cases c48:t750=true
  rotate_left
  ·replace c48:=Bool.eq_false_iff.mpr c48
   subst c48
   have H1:(w28_GossipLacks.j1 kj3 t738 t740 true l2_0 a2_1 t731 t734 t735)=some r:=by rw [if_neg (show ¬ (false=true) by decide)] at H;exact H
   clear H
   have H:=H1
   clear H1
   have H':=Aside0.mk H
   clear H
   have hnb61:=NB727_726.out
   have hnc61:=NB726_727.out
   have hnb62:=NB727_739.out
   have hnc62:=NB739_727.out
   obtain ⟨hcz63_0,hcz63_1,hfz63_0,hfz63_1⟩:=cz2_ BK727.out
   go_wp2_with (first|((with_reducible refine gate_callee (f:=43) rfl ?_);refine goesL_ (some 53) rfl rfl Try.func43 z3_17 rfl #[.slice A2_0 l2_0.length c2_0] rfl z6_5 ?_;(with_reducible refine(r03_May.calls kj3 _ _ l2_0 false _ ?side1 ?side2 A47.out).mono ?_);(case side1=>exact z32_17);(case side2=>exact HC2_0.out);rintro e w' ⟨rfl,⟨nd,rfl⟩⟩;refine ⟨_,rfl,?_⟩))
   go_meet
   case rel=>exact ⟨_,(true),z9_3,H',⟨(by have:=HJ3.out;first|omega|exact Nat.le_refl _)⟩,⟨z34_15⟩,⟨z34_7⟩,⟨z34_16⟩,⟨z34_1⟩,⟨z34_3⟩,⟨z34_6⟩,⟨z34_0⟩⟩
  subst c48
  have H1:(if a1_1=true then(w28_GossipLacks.j1 kj3 t738 t740 ((t740.length:Int) == 0) l2_0 a2_1 t731 t734 t735) else(w28_GossipLacks.j1 kj3 t738 t740 true l2_0 a2_1 t731 t734 t735))=some r:=by rw [if_pos rfl] at H;exact H
  clear H
  have H:=H1
  clear H1
  by_cases c49:a1_1=true
  ·subst c49
   have H1:(w28_GossipLacks.j1 kj3 t738 t740 ((t740.length:Int) == 0) l2_0 a2_1 t731 t734 t735)=some r:=by rw [if_pos rfl] at H;exact H
   clear H
   have H:=H1
   clear H1
   have H':=Aside0.mk H
   clear H
   have hnb50:=NB727_726.out
   have hnc50:=NB726_727.out
   have hnb51:=NB727_739.out
   have hnc51:=NB739_727.out
   obtain ⟨hcz52_0,hcz52_1,hfz52_0,hfz52_1⟩:=cz2_ BK727.out
   go_wp2_with (first|((with_reducible refine gate_callee (f:=43) rfl ?_);refine goesL_ (some 53) rfl rfl Try.func43 z3_17 rfl #[.slice A2_0 l2_0.length c2_0] rfl z6_5 ?_;(with_reducible refine(r03_May.calls kj3 _ _ l2_0 true _ ?side1 ?side2 A47.out).mono ?_);(case side1=>exact z32_17);(case side2=>exact HC2_0.out);rintro e w' ⟨rfl,⟨nd,rfl⟩⟩;refine ⟨_,rfl,?_⟩;have hnb53:=NB726_739.out;have hnc53:=NB739_726.out;obtain ⟨hcz54_0,hcz54_1,hcz54_2,hfz54_0,hfz54_1,hfz54_2⟩:=cz3_ BK726.out;obtain ⟨Ao55,co55,eo55⟩:=Kd.N_slice HO742.out;subst eo55))
   go_meet
   case rel=>exact ⟨_,(((t740.length:Int) == 0)),z9_3,H',⟨(by have:=HJ3.out;first|omega|exact Nat.le_refl _)⟩,⟨z34_15⟩,⟨z34_7⟩,⟨z34_16⟩,⟨z34_1⟩,⟨z34_3⟩,⟨z34_6⟩,⟨z34_0⟩⟩
  replace c49:=Bool.eq_false_iff.mpr c49
  subst c49
  have H1:(w28_GossipLacks.j1 kj3 t738 t740 true l2_0 a2_1 t731 t734 t735)=some r:=by rw [if_neg (show ¬ (false=true) by decide)] at H;exact H
  clear H
  have H:=H1
  clear H1
  have H':=Aside0.mk H
  clear H
  have hnb56:=NB727_726.out
  have hnc56:=NB726_727.out
  have hnb57:=NB727_739.out
  have hnc57:=NB739_727.out
  obtain ⟨hcz58_0,hcz58_1,hfz58_0,hfz58_1⟩:=cz2_ BK727.out
  go_wp2_with (first|((with_reducible refine gate_callee (f:=43) rfl ?_);refine goesL_ (some 53) rfl rfl Try.func43 z3_17 rfl #[.slice A2_0 l2_0.length c2_0] rfl z6_5 ?_;(with_reducible refine(r03_May.calls kj3 _ _ l2_0 true _ ?side1 ?side2 A47.out).mono ?_);(case side1=>exact z32_17);(case side2=>exact HC2_0.out);rintro e w' ⟨rfl,⟨nd,rfl⟩⟩;refine ⟨_,rfl,?_⟩;have hnb59:=NB726_739.out;have hnc59:=NB739_726.out;obtain ⟨hcz60_0,hcz60_1,hcz60_2,hfz60_0,hfz60_1,hfz60_2⟩:=cz3_ BK726.out))
  go_meet
  case rel=>exact ⟨_,(true),z9_3,H',⟨(by have:=HJ3.out;first|omega|exact Nat.le_refl _)⟩,⟨z34_15⟩,⟨z34_7⟩,⟨z34_16⟩,⟨z34_1⟩,⟨z34_3⟩,⟨z34_6⟩,⟨z34_0⟩⟩
 case rest =>
 clear HC27
 try clear c1
 try clear c2
 try clear p2
 try clear c3
 try clear c4
 try clear c5
 try clear c6
 try clear c8
 try clear c10
 try clear c11
 try clear c15
 try clear c16
 try clear c18
 try clear c26
 try clear c28
 try clear c29
 try clear c34
 try clear c35
 try clear c36
 try clear c40
 try clear c41
 try clear c42
 try clear c43
 try clear c48
 try clear c49
 try clear c50
 try clear c51
 try clear c53
 try clear c56
 try clear c57
 try clear c59
 try clear c61
 try clear c62
 try clear hcz12_0 hcz12_1 hcz12_2
 try clear hcz14_0 hcz14_1
 try clear hcz16_0 hcz16_1 hcz16_2
 try clear hcz29_0 hcz29_1
 try clear hcz30_0 hcz30_1 hcz30_2
 try clear hcz36_0 hcz36_1 hcz36_2
 try clear hcz39_0 hcz39_1 hcz39_2
 try clear hcz52_0 hcz52_1
 try clear hcz54_0 hcz54_1 hcz54_2
 try clear hcz58_0 hcz58_1
 try clear hcz60_0 hcz60_1 hcz60_2
 try clear hcz63_0 hcz63_1
 try clear hfz12_0 hfz12_1 hfz12_2
 try clear hfz14_0 hfz14_1
 try clear hfz16_0 hfz16_1 hfz16_2
 try clear hfz29_0 hfz29_1
 try clear hfz30_0 hfz30_1 hfz30_2
 try clear hfz36_0 hfz36_1 hfz36_2
 try clear hfz39_0 hfz39_1 hfz39_2
 try clear hfz52_0 hfz52_1
 try clear hfz54_0 hfz54_1 hfz54_2
 try clear hfz58_0 hfz58_1
 try clear hfz60_0 hfz60_1 hfz60_2
 try clear hfz63_0 hfz63_1
 try clear p2
 obtain ⟨kq,x64_26,rfl,HA,HJ26,HO_9,HO_740000,HO_740002,BK726,BK727,BK739,HB⟩:=hcut
 cases kq with
 | zero=>exact absurd HA.out (by simp [w28_GossipLacks.j1])
 | succ kj26 =>
 have H:=HA.out
 clear HA
 simp only [w28_GossipLacks.j1] at H
 by_cases c64:x64_26=true
 ·subst c64
  have H1:(if t738=true then(some false) else((r28_Same.f kj26 t731 t734 t735 ([]:List Int) false ([]:List (S30))).bind fun t751=>(if t751=true then((w28_awake.f kj26).bind fun t752=>(some t752)) else(some false))))=some r:=by rw [if_pos rfl] at H;exact H
  clear H
  have H:=H1
  clear H1
  by_cases c65:t738=true
  ·subst c65
   have H1:(some false)=some r:=by rw [if_pos rfl] at H;exact H
   exact absurd (HRT_.out.symm.trans (Option.some.inj H1).symm) (by simp)
  replace c65:=Bool.eq_false_iff.mpr c65
  subst c65
  have H1:((r28_Same.f kj26 t731 t734 t735 ([]:List Int) false ([]:List (S30))).bind fun t751=>(if t751=true then((w28_awake.f kj26).bind fun t752=>(some t752)) else(some false)))=some r:=by rw [if_neg (show ¬ (false=true) by decide)] at H;exact H
  clear H
  have H:=H1
  clear H1
  replace H:=Option.bind_eq_some_iff.mp H
  obtain ⟨t751,A660,H⟩:=H
  replace H:(if t751=true then((w28_awake.f kj26).bind fun t752=>(some t752)) else(some false))=some r:=H
  have A66:=Aside0.mk A660
  clear A660
  by_cases c67:t751=true
  rotate_left
  ·replace c67:=Bool.eq_false_iff.mpr c67
   subst c67
   have H1:(some false)=some r:=by rw [if_neg (show ¬ (false=true) by decide)] at H;exact H
   exact absurd (HRT_.out.symm.trans (Option.some.inj H1).symm) (by simp)
  subst c67
  have H1:((w28_awake.f kj26).bind fun t752=>(some t752))=some r:=by rw [if_pos rfl] at H;exact H
  clear H
  have H:=H1
  clear H1
  replace H:=Option.bind_eq_some_iff.mp H
  obtain ⟨t752,A680,H⟩:=H
  replace H:(some t752)=some r:=H
  have A68:=Aside0.mk A680
  clear A680
  obtain rfl:=Option.some.inj H
  have hnb69:=NB739_726.out
  have hnc69:=NB726_739.out
  have hnb70:=NB739_727.out
  have hnc70:=NB727_739.out
  obtain ⟨hcz71_0,hcz71_1,hcz71_2,hfz71_0,hfz71_1,hfz71_2⟩:=cz3_ BK739.out
  go_wp2_with (first|(go_at_call 32;(refine(r28_Same.calls kj26 _ _ t731 t734 _ _ t735 _ _ ([]:List Int) false _ _ ([]:List (S30)) true _ ?side1 ?side2 ?side3 ?side4 ?side5 ?side6 ?side7 ?side8 A66.out).mono ?_);(case side1=>exact z34_18);(case side2=>exact(Kd.R_reads' HO_740000.out).2.1);(case side3=>exact z34_19);(case side4=>exact(Kd.N_reads' HO_740002.out).2.1);(case side5=>exact Kd.C_nil _ _);(case side6=>exact Nat.le_refl _);(case side7=>exact Kd.C_nil _ _);(case side8=>exact Nat.le_refl _);rintro e w72 ⟨rfl,hb⟩;replace HO_9:=Aside0.mk (Kd.N_below z34_14 hb);replace HO_740000:=Aside0.mk (Kd.R_below z34_11 hb);replace HO_740002:=Aside0.mk (Kd.N_below z34_12 hb);replace BK726:=Aside0.mk (blk_below (g:=gb726) (o:=.cells #[.slice A1_0 l1_0.length c1_0,.bool a1_1,.slice A1_2 l1_2.length c1_2] 53 (0,0)) z34_1 hb);replace BK727:=Aside0.mk (blk_below (g:=gb727) (o:=.cells #[.slice A2_0 l2_0.length c2_0,.int .i64 a2_1] 65 (0,0)) z34_3 hb);replace BK739:=Aside0.mk (blk_below (g:=gb739) (o:=.cells #[.slice Ao33 t731.length co33,.bool t734,.slice Ao37 t735.length co37] 53 (0,0)) z34_6 hb);replace HB:=Aside0.mk (below_step z34_0 hb);(try clear hb);(try clear hb2);(try clear hk);(try clear hi))|(go_at_call 29;(with_reducible refine(w28_awake.calls kj26  t752 _ A68.out).mono ?_);rintro e w73 ⟨rfl,hb⟩;replace HO_9:=Aside0.mk (Kd.N_below z34_14 hb);replace HO_740000:=Aside0.mk (Kd.R_below z34_11 hb);replace HO_740002:=Aside0.mk (Kd.N_below z34_12 hb);replace BK726:=Aside0.mk (blk_below (g:=gb726) (o:=.cells #[.slice A1_0 l1_0.length c1_0,.bool a1_1,.slice A1_2 l1_2.length c1_2] 53 (0,0)) z34_1 hb);replace BK727:=Aside0.mk (blk_below (g:=gb727) (o:=.cells #[.slice A2_0 l2_0.length c2_0,.int .i64 a2_1] 65 (0,0)) z34_3 hb);replace BK739:=Aside0.mk (blk_below (g:=gb739) (o:=.cells #[.slice Ao33 t731.length co33,.bool t734,.slice Ao37 t735.length co37] 53 (0,0)) z34_6 hb);replace HB:=Aside0.mk (below_step z34_0 hb);(try clear hb);(try clear hb2);(try clear hk);(try clear hi)))
  go_ret
  exact ⟨z9_2,z34_0⟩
 replace c64:=Bool.eq_false_iff.mpr c64
 subst c64
 have H1:(if t738=true then((r03_Plain.f kj26 l2_0).bind fun t753=>((r28_Same.f kj26 t731 t734 t735 t753 false t740).bind fun t756=>(if t756=true then((r28_May.f kj26 t731 t734 t735).bind fun t757=>(if t757=true then((w28_awake.f kj26).bind fun t758=>(some t758)) else(some false))) else(some false)))) else(some false))=some r:=by rw [if_neg (show ¬ (false=true) by decide)] at H;exact H
 clear H
 have H:=H1
 clear H1
 by_cases c78:t738=true
 rotate_left
 ·replace c78:=Bool.eq_false_iff.mpr c78
  subst c78
  have H1:(some false)=some r:=by rw [if_neg (show ¬ (false=true) by decide)] at H;exact H
  exact absurd (HRT_.out.symm.trans (Option.some.inj H1).symm) (by simp)
 subst c78
 have H1:((r03_Plain.f kj26 l2_0).bind fun t753=>((r28_Same.f kj26 t731 t734 t735 t753 false t740).bind fun t756=>(if t756=true then((r28_May.f kj26 t731 t734 t735).bind fun t757=>(if t757=true then((w28_awake.f kj26).bind fun t758=>(some t758)) else(some false))) else(some false))))=some r:=by rw [if_pos rfl] at H;exact H
 clear H
 have H:=H1
 clear H1
 replace H:=Option.bind_eq_some_iff.mp H
 obtain ⟨t753,A790,H⟩:=H
 replace H:((r28_Same.f kj26 t731 t734 t735 t753 false t740).bind fun t756=>(if t756=true then((r28_May.f kj26 t731 t734 t735).bind fun t757=>(if t757=true then((w28_awake.f kj26).bind fun t758=>(some t758)) else(some false))) else(some false)))=some r:=H
 have A79:=Aside0.mk A790
 clear A790
 replace H:=Option.bind_eq_some_iff.mp H
 obtain ⟨t756,A800,H⟩:=H
 replace H:(if t756=true then((r28_May.f kj26 t731 t734 t735).bind fun t757=>(if t757=true then((w28_awake.f kj26).bind fun t758=>(some t758)) else(some false))) else(some false))=some r:=H
 have A80:=Aside0.mk A800
 clear A800
 by_cases c81:t756=true
 rotate_left
 ·replace c81:=Bool.eq_false_iff.mpr c81
  subst c81
  have H1:(some false)=some r:=by rw [if_neg (show ¬ (false=true) by decide)] at H;exact H
  exact absurd (HRT_.out.symm.trans (Option.some.inj H1).symm) (by simp)
 subst c81
 have H1:((r28_May.f kj26 t731 t734 t735).bind fun t757=>(if t757=true then((w28_awake.f kj26).bind fun t758=>(some t758)) else(some false)))=some r:=by rw [if_pos rfl] at H;exact H
 clear H
 have H:=H1
 clear H1
 replace H:=Option.bind_eq_some_iff.mp H
 obtain ⟨t757,A820,H⟩:=H
 replace H:(if t757=true then((w28_awake.f kj26).bind fun t758=>(some t758)) else(some false))=some r:=H
 have A82:=Aside0.mk A820
 clear A820
 by_cases c83:t757=true
 rotate_left
 ·replace c83:=Bool.eq_false_iff.mpr c83
  subst c83
  have H1:(some false)=some r:=by rw [if_neg (show ¬ (false=true) by decide)] at H;exact H
  exact absurd (HRT_.out.symm.trans (Option.some.inj H1).symm) (by simp)
 subst c83
 have H1:((w28_awake.f kj26).bind fun t758=>(some t758))=some r:=by rw [if_pos rfl] at H;exact H
 clear H
 have H:=H1
 clear H1
 replace H:=Option.bind_eq_some_iff.mp H
 obtain ⟨t758,A840,H⟩:=H
 replace H:(some t758)=some r:=H
 have A84:=Aside0.mk A840
 clear A840
 obtain rfl:=Option.some.inj H
 try go_wp2
 have n0_:=Aside0.mk (Kd.N_drew HO_9.out)
 have n1_:=Aside0.mk (Kd.R_drew HO_740000.out)
 have n2_:=Aside0.mk (Kd.N_drew HO_740002.out)
 have n3_:=Aside0.mk (blk_drew BK726.out)
 have n4_:=Aside0.mk (blk_drew BK727.out)
 have n5_:=Aside0.mk (blk_drew BK739.out)
 have n6_:=Aside0.mk (below_drew1 HB.out)
 clear HO_9
 clear HO_740000
 clear HO_740002
 clear BK726
 clear BK727
 clear BK739
 clear HB
 have HO_9:=n0_
 have HO_740000:=n1_
 have HO_740002:=n2_
 have BK726:=n3_
 have BK727:=n4_
 have BK739:=n5_
 have HB:=n6_
 clear n0_ n1_ n2_ n3_ n4_ n5_ n6_
 refine start_ (n:=18) (S:=fun w'=>w'.cell? ⟨gb739,0,none⟩=some (.slice Ao33 t731.length co33)∧w'.cell? ⟨gb739,1,none⟩=some (.bool t734)∧w'.cell? ⟨gb739,2,none⟩=some (.slice Ao37 t735.length co37)∧w'.cell? ⟨gb727,0,none⟩=some (.slice A2_0 l2_0.length c2_0)∧w'.cell? ⟨gb727,1,none⟩=some (.int .i64 a2_1)) (ds:=[]) #[false,false,false,false,false,false,false,false,false,false,false,false,false,false,false,false,false,false] z3_17 rfl rfl ⟨(blk_cell BK739.out 0).trans rfl,(blk_cell BK739.out 1).trans rfl,(blk_cell BK739.out 2).trans rfl,(blk_cell BK727.out 0).trans rfl,(blk_cell BK727.out 1).trans rfl⟩ (fun hHeld=>?_);refine with_tabW w28_GossipLacks.tab9 w28_GossipLacks.bits9 (fun HT_ HW_=>?_)
 generalize wc.drew=w85 at HO_9 HO_740000 HO_740002 BK726 BK727 BK739 HB hHeld ⊢
 refine pure_ (i:=0) (N:=some 75) (v:=?_) (a':=?_) #[true,false,false,false,false,false,false,false,false,false,false,false,false,false,false,false,false,false] rfl rfl (any_of HT_.out z3_17) (fun _ _ _ h=>h) (Or.inl ⟨(by rfl),?_⟩) ?_ ?_
 rotate_left
 ·intro w'
  go_simp
  with_reducible rfl
 rotate_left
 ·exact z3_3
 refine pure_ (i:=1) (N:=some 76) (v:=?_) (a':=?_) #[true,true,false,false,false,false,false,false,false,false,false,false,false,false,false,false,false,false] rfl rfl (any_of HT_.out z3_17) (fun _ _ _ h=>h) (Or.inl ⟨(by rfl),?_⟩) ?_ ?_
 rotate_left
 ·intro w'
  go_simp
  with_reducible rfl
 rotate_left
 ·exact z3_3
 refine pure_ (i:=3) (N:=some 78) (v:=?_) (a':=?_) #[true,true,false,true,false,false,false,false,false,false,false,false,false,false,false,false,false,false] rfl rfl (any_of HT_.out z3_17) (fun _ _ _ h=>h) (Or.inl ⟨(by rfl),?_⟩) ?_ ?_
 rotate_left
 ·intro w'
  go_simp
  with_reducible rfl
 rotate_left
 ·exact z3_3
 refine pure_ (i:=6) (N:=some 81) (v:=?_) (a':=?_) #[true,true,false,true,false,false,true,false,false,false,false,false,false,false,false,false,false,false] rfl rfl (any_of HT_.out z3_17) (fun _ _ _ h=>h) (Or.inl ⟨(by rfl),?_⟩) ?_ ?_
 rotate_left
 ·intro w'
  go_simp
  with_reducible rfl
 rotate_left
 ·exact z3_3
 refine take_ (i:=2) (N:=some 77) (v:=?_) (a':=?_) #[true,true,true,true,false,false,true,false,false,false,false,false,false,false,false,false,false,false] rfl rfl (take_ofW HT_.out HW_.out z3_17) (fun _ _ _ h=>h) (Or.inl ⟨(by rfl),?_⟩) hHeld ?_ ?_
 rotate_left
 ·rintro w' ⟨s0,s1,s2,s3,s4⟩
  go_simp
  with_reducible rfl
 rotate_left
 ·exact z3_3
 refine take_ (i:=4) (N:=some 79) (v:=?_) (a':=?_) #[true,true,true,true,true,false,true,false,false,false,false,false,false,false,false,false,false,false] rfl rfl (take_ofW HT_.out HW_.out z3_17) (fun _ _ _ h=>h) (Or.inl ⟨(by rfl),?_⟩) hHeld ?_ ?_
 rotate_left
 ·rintro w' ⟨s0,s1,s2,s3,s4⟩
  go_simp
  with_reducible rfl
 rotate_left
 ·exact z3_3
 refine one_ (i:=5) (N:=some 80) #[true,true,true,true,true,true,true,false,false,false,false,false,false,false,false,false,false,false] rfl rfl (one_of HT_.out z3_17) (by decide) (fun K hK=>?_)
 refine goes_ Try.func44 z3_17 rfl #[.slice A2_0 l2_0.length c2_0] (by rfl) rfl rfl z6_5 ?_
 with_reducible refine(r03_Plain.calls kj26 _ _ l2_0 t753 _ ?side1 ?side2 A79.out).mono ?_
 (case side1=>exact z32_17)
 (case side2=>exact HC2_0.out)
 rintro e w86 ⟨v754,rfl,ho0,hb⟩
 refine ⟨_,rfl,?_⟩
 have n0_:=Aside0.mk (Kd.N_elder' z34_14 (Kd.R_base ho0) hb)
 have n1_:=Aside0.mk (Kd.R_elder' z34_11 (Kd.R_base ho0) hb)
 have n2_:=Aside0.mk (Kd.N_elder' z34_12 (Kd.R_base ho0) hb)
 have n3_:=Aside0.mk (Kd.R_lower (Kd.R_new' ho0 (Kd.R_lt z34_11)) (below_size z34_0))
 have n4_:=Aside0.mk (blk_below (g:=gb726) (o:=.cells #[.slice A1_0 l1_0.length c1_0,.bool a1_1,.slice A1_2 l1_2.length c1_2] 53 (0,0)) z34_1 hb)
 have n5_:=Aside0.mk (blk_below (g:=gb727) (o:=.cells #[.slice A2_0 l2_0.length c2_0,.int .i64 a2_1] 65 (0,0)) z34_3 hb)
 have n6_:=Aside0.mk (blk_below (g:=gb739) (o:=.cells #[.slice Ao33 t731.length co33,.bool t734,.slice Ao37 t735.length co37] 53 (0,0)) z34_6 hb)
 have n7_:=Aside0.mk (below_step z34_0 hb)
 clear HO_9
 clear HO_740000
 clear HO_740002
 clear BK726
 clear BK727
 clear BK739
 clear HB
 have HO_9:=n0_
 have HO_740000:=n1_
 have HO_740002:=n2_
 have HO755:=n3_
 have BK726:=n4_
 have BK727:=n5_
 have BK739:=n6_
 have HB:=n7_
 clear n0_ n1_ n2_ n3_ n4_ n5_ n6_ n7_
 (try clear hb)
 (try clear hb2)
 (try clear hk)
 (try clear hi)
 (try clear ho0)
 obtain ⟨Ao87,co87,eo87⟩:=Kd.N_slice HO_9.out
 (first|subst eo87|(injection eo87 with f1_ f2_ f3_;have f4_:=f1_.symm;have f5_:=f3_.symm;clear f1_ f2_ f3_;subst f4_;subst f5_))
 obtain ⟨Ao88,co88,eo88⟩:=Kd.R_slice HO755.out
 (first|subst eo88|(injection eo88 with f1_ f2_ f3_;have f4_:=f1_.symm;have f5_:=f3_.symm;clear f1_ f2_ f3_;subst f4_;subst f5_))
 refine hK.out _ _ ⟨(blk_cell BK739.out 0).trans rfl,(blk_cell BK739.out 1).trans rfl,(blk_cell BK739.out 2).trans rfl,(blk_cell BK727.out 0).trans rfl,(blk_cell BK727.out 1).trans rfl⟩ (fun hHeld=>?_)
 clear hK K
 refine norm_ (a':=?_) ?_ ?_
 rotate_left
 ·show Act.put _ (some 80) _=_;simp only [Act.put,List.setIfInBounds_toArray,List.set_cons_zero,List.set_cons_succ,i64_w,i32_w];rfl
 refine pure_ (i:=7) (N:=some 82) (v:=?_) (a':=?_) #[true,true,true,true,true,true,true,true,false,false,false,false,false,false,false,false,false,false] rfl rfl (any_of HT_.out z3_17) (fun _ _ _ h=>h) (Or.inl ⟨(by rfl),?_⟩) ?_ ?_
 rotate_left
 ·intro w'
  go_simp
  with_reducible rfl
 rotate_left
 ·exact z3_3
 refine one_ (i:=8) (N:=some 83) #[true,true,true,true,true,true,true,true,true,false,false,false,false,false,false,false,false,false] rfl rfl (one_of HT_.out z3_17) (by decide) (fun K hK=>?_)
 refine goes_ Try.func32 z3_17 rfl #[.agg #[.slice Ao33 t731.length co33,.bool t734,.slice Ao37 t735.length co37],.agg #[.slice Ao88 t753.length co88,.bool false,.slice Ao87 t740.length co87]] (by rfl) rfl rfl z6_5 ?_
 with_reducible refine(r28_Same.calls kj26 _ _ t731 t734 _ _ t735 _ _ t753 false _ _ t740 true _ ?side1 ?side2 ?side3 ?side4 ?side5 ?side6 ?side7 ?side8 A80.out).mono ?_
 (case side1=>exact z34_18)
 (case side2=>exact(Kd.R_reads' HO_740000.out).2.1)
 (case side3=>exact z34_19)
 (case side4=>exact(Kd.N_reads' HO_740002.out).2.1)
 (case side5=>repeat(first|exact(Kd.R_reads' HO755.out).2.2|(with_reducible refine Kd.C_alloc ?_ _)|(with_reducible refine Kd.C_drewN ?_ _)|(with_reducible refine Kd.C_drew ?_)))
 (case side6=>exact(Kd.R_reads' HO755.out).2.1)
 (case side7=>repeat(first|exact(Kd.N_reads' HO_9.out).2.2|(with_reducible refine Kd.C_alloc ?_ _)|(with_reducible refine Kd.C_drewN ?_ _)|(with_reducible refine Kd.C_drew ?_)))
 (case side8=>exact(Kd.N_reads' HO_9.out).2.1)
 rintro e w89 ⟨rfl,hb⟩
 refine ⟨_,rfl,?_⟩
 have n0_:=Aside0.mk (Kd.N_below z34_14 hb)
 have n1_:=Aside0.mk (Kd.R_below z34_11 hb)
 have n2_:=Aside0.mk (Kd.N_below z34_12 hb)
 have n3_:=Aside0.mk (Kd.R_below z34_25 hb)
 have n4_:=Aside0.mk (blk_below (g:=gb726) (o:=.cells #[.slice A1_0 l1_0.length c1_0,.bool a1_1,.slice A1_2 l1_2.length c1_2] 53 (0,0)) z34_1 hb)
 have n5_:=Aside0.mk (blk_below (g:=gb727) (o:=.cells #[.slice A2_0 l2_0.length c2_0,.int .i64 a2_1] 65 (0,0)) z34_3 hb)
 have n6_:=Aside0.mk (blk_below (g:=gb739) (o:=.cells #[.slice Ao33 t731.length co33,.bool t734,.slice Ao37 t735.length co37] 53 (0,0)) z34_6 hb)
 have n7_:=Aside0.mk (below_step z34_0 hb)
 clear HO_9
 clear HO_740000
 clear HO_740002
 clear HO755
 clear BK726
 clear BK727
 clear BK739
 clear HB
 have HO_9:=n0_
 have HO_740000:=n1_
 have HO_740002:=n2_
 have HO755:=n3_
 have BK726:=n4_
 have BK727:=n5_
 have BK739:=n6_
 have HB:=n7_
 clear n0_ n1_ n2_ n3_ n4_ n5_ n6_ n7_
 (try clear hb)
 (try clear hb2)
 (try clear hk)
 (try clear hi)
 refine hK.out _ _ ⟨(blk_cell BK739.out 0).trans rfl,(blk_cell BK739.out 1).trans rfl,(blk_cell BK739.out 2).trans rfl,(blk_cell BK727.out 0).trans rfl,(blk_cell BK727.out 1).trans rfl⟩ (fun hHeld=>?_)
 clear hK K
 refine norm_ (a':=?_) ?_ ?_
 rotate_left
 ·show Act.put _ (some 83) _=_;simp only [Act.put,List.setIfInBounds_toArray,List.set_cons_zero,List.set_cons_succ,i64_w,i32_w];rfl
 refine pure_ (i:=9) (N:=some 84) (v:=?_) (a':=?_) #[true,true,true,true,true,true,true,true,true,true,false,false,false,false,false,false,false,false] rfl rfl (any_of HT_.out z3_17) (fun _ _ _ h=>h) (Or.inl ⟨(by rfl),?_⟩) ?_ ?_
 rotate_left
 ·intro w'
  go_simp
  with_reducible rfl
 rotate_left
 ·exact z3_3
 refine pure_ (i:=10) (N:=some 85) (v:=?_) (a':=?_) #[true,true,true,true,true,true,true,true,true,true,true,false,false,false,false,false,false,false] rfl rfl (any_of HT_.out z3_17) (fun _ _ _ h=>h) (Or.inl ⟨(by rfl),?_⟩) ?_ ?_
 rotate_left
 ·intro w'
  go_simp
  with_reducible rfl
 rotate_left
 ·exact z3_3
 refine take_ (i:=11) (N:=some 86) (v:=?_) (a':=?_) #[true,true,true,true,true,true,true,true,true,true,true,true,false,false,false,false,false,false] rfl rfl (take_ofW HT_.out HW_.out z3_17) (fun _ _ _ h=>h) (Or.inl ⟨(by rfl),?_⟩) hHeld ?_ ?_
 rotate_left
 ·rintro w' ⟨s0,s1,s2,s3,s4⟩
  go_simp
  with_reducible rfl
 rotate_left
 ·exact z3_3
 refine one_ (i:=12) (N:=some 87) #[true,true,true,true,true,true,true,true,true,true,true,true,true,false,false,false,false,false] rfl rfl (one_of HT_.out z3_17) (by decide) (fun K hK=>?_)
 refine goes_ Try.func45 z3_17 rfl #[.agg #[.slice Ao33 t731.length co33,.bool t734,.slice Ao37 t735.length co37]] (by rfl) rfl rfl z6_5 ?_
 with_reducible refine(r28_May.calls kj26 _ _ t731 t734 _ _ t735 true _ ?side1 ?side2 ?side3 ?side4 A82.out).mono ?_
 (case side1=>exact z34_18)
 (case side2=>exact(Kd.R_reads' HO_740000.out).2.1)
 (case side3=>exact z34_19)
 (case side4=>exact(Kd.N_reads' HO_740002.out).2.1)
 rintro e w90 ⟨rfl,hb⟩
 refine ⟨_,rfl,?_⟩
 have n0_:=Aside0.mk (Kd.N_below z34_14 hb)
 have n1_:=Aside0.mk (Kd.R_below z34_11 hb)
 have n2_:=Aside0.mk (Kd.N_below z34_12 hb)
 have n3_:=Aside0.mk (Kd.R_below z34_25 hb)
 have n4_:=Aside0.mk (blk_below (g:=gb726) (o:=.cells #[.slice A1_0 l1_0.length c1_0,.bool a1_1,.slice A1_2 l1_2.length c1_2] 53 (0,0)) z34_1 hb)
 have n5_:=Aside0.mk (blk_below (g:=gb727) (o:=.cells #[.slice A2_0 l2_0.length c2_0,.int .i64 a2_1] 65 (0,0)) z34_3 hb)
 have n6_:=Aside0.mk (blk_below (g:=gb739) (o:=.cells #[.slice Ao33 t731.length co33,.bool t734,.slice Ao37 t735.length co37] 53 (0,0)) z34_6 hb)
 have n7_:=Aside0.mk (below_step z34_0 hb)
 clear HO_9
 clear HO_740000
 clear HO_740002
 clear HO755
 clear BK726
 clear BK727
 clear BK739
 clear HB
 have HO_9:=n0_
 have HO_740000:=n1_
 have HO_740002:=n2_
 have HO755:=n3_
 have BK726:=n4_
 have BK727:=n5_
 have BK739:=n6_
 have HB:=n7_
 clear n0_ n1_ n2_ n3_ n4_ n5_ n6_ n7_
 (try clear hb)
 (try clear hb2)
 (try clear hk)
 (try clear hi)
 refine hK.out _ _ ⟨(blk_cell BK739.out 0).trans rfl,(blk_cell BK739.out 1).trans rfl,(blk_cell BK739.out 2).trans rfl,(blk_cell BK727.out 0).trans rfl,(blk_cell BK727.out 1).trans rfl⟩ (fun hHeld=>?_)
 clear hK K
 refine norm_ (a':=?_) ?_ ?_
 rotate_left
 ·show Act.put _ (some 87) _=_;simp only [Act.put,List.setIfInBounds_toArray,List.set_cons_zero,List.set_cons_succ,i64_w,i32_w];rfl
 refine pure_ (i:=13) (N:=some 88) (v:=?_) (a':=?_) #[true,true,true,true,true,true,true,true,true,true,true,true,true,true,false,false,false,false] rfl rfl (any_of HT_.out z3_17) (fun _ _ _ h=>h) (Or.inl ⟨(by rfl),?_⟩) ?_ ?_
 rotate_left
 ·intro w'
  go_simp
  with_reducible rfl
 rotate_left
 ·exact z3_3
 refine pure_ (i:=14) (N:=some 89) (v:=?_) (a':=?_) #[true,true,true,true,true,true,true,true,true,true,true,true,true,true,true,false,false,false] rfl rfl (any_of HT_.out z3_17) (fun _ _ _ h=>h) (Or.inl ⟨(by rfl),?_⟩) ?_ ?_
 rotate_left
 ·intro w'
  go_simp
  with_reducible rfl
 rotate_left
 ·exact z3_3
 refine one_ (i:=15) (N:=some 90) #[true,true,true,true,true,true,true,true,true,true,true,true,true,true,true,true,false,false] rfl rfl (one_of HT_.out z3_17) (by decide) (fun K hK=>?_)
 refine goes_ Try.func29 z3_17 rfl #[] (by rfl) rfl rfl z6_5 ?_
 with_reducible refine(w28_awake.calls kj26  t758 _ A84.out).mono ?_
 rintro e w91 ⟨rfl,hb⟩
 refine ⟨_,rfl,?_⟩
 have n0_:=Aside0.mk (Kd.N_below z34_14 hb)
 have n1_:=Aside0.mk (Kd.R_below z34_11 hb)
 have n2_:=Aside0.mk (Kd.N_below z34_12 hb)
 have n3_:=Aside0.mk (Kd.R_below z34_25 hb)
 have n4_:=Aside0.mk (blk_below (g:=gb726) (o:=.cells #[.slice A1_0 l1_0.length c1_0,.bool a1_1,.slice A1_2 l1_2.length c1_2] 53 (0,0)) z34_1 hb)
 have n5_:=Aside0.mk (blk_below (g:=gb727) (o:=.cells #[.slice A2_0 l2_0.length c2_0,.int .i64 a2_1] 65 (0,0)) z34_3 hb)
 have n6_:=Aside0.mk (blk_below (g:=gb739) (o:=.cells #[.slice Ao33 t731.length co33,.bool t734,.slice Ao37 t735.length co37] 53 (0,0)) z34_6 hb)
 have n7_:=Aside0.mk (below_step z34_0 hb)
 clear HO_9
 clear HO_740000
 clear HO_740002
 clear HO755
 clear BK726
 clear BK727
 clear BK739
 clear HB
 have HO_9:=n0_
 have HO_740000:=n1_
 have HO_740002:=n2_
 have HO755:=n3_
 have BK726:=n4_
 have BK727:=n5_
 have BK739:=n6_
 have HB:=n7_
 clear n0_ n1_ n2_ n3_ n4_ n5_ n6_ n7_
 (try clear hb)
 (try clear hb2)
 (try clear hk)
 (try clear hi)
 refine hK.out _ _ ⟨(blk_cell BK739.out 0).trans rfl,(blk_cell BK739.out 1).trans rfl,(blk_cell BK739.out 2).trans rfl,(blk_cell BK727.out 0).trans rfl,(blk_cell BK727.out 1).trans rfl⟩ (fun hHeld=>?_)
 clear hK K
 refine norm_ (a':=?_) ?_ ?_
 rotate_left
 ·show Act.put _ (some 90) _=_;simp only [Act.put,List.setIfInBounds_toArray,List.set_cons_zero,List.set_cons_succ,i64_w,i32_w];rfl
 refine pure_ (i:=16) (N:=some 91) (v:=?_) (a':=?_) #[true,true,true,true,true,true,true,true,true,true,true,true,true,true,true,true,true,false] rfl rfl (any_of HT_.out z3_17) (fun _ _ _ h=>h) (Or.inl ⟨(by rfl),?_⟩) ?_ ?_
 rotate_left
 ·intro w'
  go_simp
  with_reducible rfl
 rotate_left
 ·exact z3_3
 refine pure_ (i:=17) (N:=some 6) (v:=?_) (a':=?_) #[true,true,true,true,true,true,true,true,true,true,true,true,true,true,true,true,true,true] rfl rfl (any_of HT_.out z3_17) (fun _ _ _ h=>h) (Or.inl ⟨(by rfl),?_⟩) ?_ ?_
 rotate_left
 ·intro w'
  go_simp
  with_reducible rfl
 rotate_left
 ·exact z3_3
 refine done_ (done_of HT_.out z3_17) ?_
 try go_wp2
 go_ret
 exact ⟨z9_2,z34_0⟩
end Go.Proofs.Ytgocnchjpecafaa.PEv
