/- a part -/
import Derived.Test.YtgocnchjpecafaaPEvx3
import Derived.Test.YtgocnchjpecafaaPEvx10
namespace Go.Proofs.Ytgocnchjpecafaa.PEv
open Go.RowKit Go.Proofs.YtgocnchjpecafaaW.PrintWords Go.Proofs.YtgocnchjpecafaaW.PrintLast Go.Proofs.YtgocnchjpecafaaW.PrintMore
attribute [local go_sem] max2_int min2_int max_two min_two max_three min_three max_four min_four
set_option linter.unusedVariables false
set_option linter.unusedSimpArgs false
set_option maxHeartbeats 8000000
set_option maxRecDepth 100000
theorem z23_3 {P:Prop} (h:P:=by repeat(first|(with_reducible first|exact HB.out|apply below_alloc|apply pw_below_drewN|apply below_drew1|refine below_set ?_ GE506.out)|exact HB.out)):P:=h
theorem z23_4 {P:Prop} (h:P:=by(with_reducible repeat(first|refine blk_drewN ?_ _|refine blk_drew ?_|refine blk_alloc ?_ _));exact BK506.out):P:=h
theorem z23_5 {P:Prop} (h:P:=by repeat(first|(with_reducible first|exact HB.out|apply below_alloc|apply pw_below_drewN|apply below_drew1|refine below_set ?_ GE506.out|refine below_set ?_ GE507.out)|exact HB.out)):P:=h
theorem z23_10 {P:Prop} (h:P:=by repeat(first|exact HR1.out|(with_reducible refine Kd.C_alloc ?_ _)|(with_reducible refine Kd.C_drewN ?_ _)|(with_reducible refine Kd.C_drew ?_))):P:=h
theorem z23_12 {P:Prop} (h:P:=by show Act.put _ (some 7) _=_;simp only [Act.put,List.setIfInBounds_toArray,List.set_cons_zero,List.set_cons_succ,i64_w,i32_w];rfl):P:=h
theorem z23_14 {P:Prop} (h:P:=by(with_reducible repeat(first|refine blk_drewN ?_ _|refine blk_drew ?_|refine blk_alloc ?_ _));exact BK507.out):P:=h
def r05_Ahead.f (k:Nat) (a0_0:Int) (a0_1:Int) (l0_2:List Int) (l0_3:List (S48)) (a1_0:Int) (a1_1:Int) (l1_2:List Int) (l1_3:List (S48)):Option (Bool):=(r04_May.f a0_0 a0_1).bind λt508=>(if t508=true then((r03_Get.f k l1_2 a0_0).bind λt509=>(some (decide (t509>=a0_1)))) else(some false))
def r05_Ahead.T1:Bool×List (List Nat×List Nat):=(true,[([],[]),([0],[0]),([1],[1]),([2,2],[2]),([3],[3]),([4,3],[3,4]),([3],[3]),([6,3],[3,6]),([7,3],[3,7]),([5,8,3,3],[3,5,8]),([3],[3]),([10,3],[3,10]),([11,3],[3,11]),([9,12,3],[3,9,12]),([3,13],[3,13]),([14,9,0,1,2,3,4,5,6,7,8,9,10,11,12,13,14],[14])])
def r05_Ahead.B1:List Nat:=[0,1,3,7,15,31,15,79,207,511,15,1039,3087,8191,16383,32767]
theorem r05_Ahead.tab1:rtab .any (opsOf Try.f18 1)=r05_Ahead.T1:=by kernel_rfl
theorem r05_Ahead.bits1:waitsOk r05_Ahead.T1.2 r05_Ahead.B1=true:=by kernel_rfl
theorem r05_Ahead.calls (k:Nat) (a0_0:Int) (a0_1:Int) (A0_2:Option Addr) (c0_2:Nat) (l0_2:List Int) (A0_3:Option Addr) (c0_3:Nat) (l0_3:List (S48)) (a1_0:Int) (a1_1:Int) (A1_2:Option Addr) (c1_2:Nat) (l1_2:List Int) (A1_3:Option Addr) (c1_3:Nat) (l1_3:List (S48)) (r:Bool) (w:World) (hr0_2:Kd.C (Kd.int .i64) w A0_2 l0_2.length l0_2) (hc0_2:l0_2.length<=c0_2) (hr0_3:Kd.C k48 w A0_3 l0_3.length l0_3) (hc0_3:l0_3.length<=c0_3) (hr1_2:Kd.C (Kd.int .i64) w A1_2 l1_2.length l1_2) (hc1_2:l1_2.length<=c1_2) (hr1_3:Kd.C k48 w A1_3 l1_3.length l1_3) (hc1_3:l1_3.length<=c1_3) (h:r05_Ahead.f k a0_0 a0_1 l0_2 l0_3 a1_0 a1_1 l1_2 l1_3=some r) :
  Calls Try.prog 18 #[.agg #[.int .i64 a0_0,.int .i64 a0_1,.slice A0_2 l0_2.length c0_2,.slice A0_3 l0_3.length c0_3],.agg #[.int .i64 a1_0,.int .i64 a1_1,.slice A1_2 l1_2.length c1_2,.slice A1_3 l1_3.length c1_3]] w λe w'=>e = .returned (.bool r)/\Below w.heap.size w w':=by
 have hu30:=Try.underlying30
 have hu25:=Try.underlying25
 have HR0_2:=Aside0.mk hr0_2
 have HC0_2:=Aside0.mk hc0_2
 clear hr0_2 hc0_2
 have HR0_3:=Aside0.mk hr0_3
 have HC0_3:=Aside0.mk hc0_3
 clear hr0_3 hc0_3
 have HR1_2:=Aside0.mk hr1_2
 have HC1_2:=Aside0.mk hc1_2
 clear hr1_2 hc1_2
 have HR1_3:=Aside0.mk hr1_3
 have HC1_3:=Aside0.mk hc1_3
 clear hr1_3 hc1_3
 have HB:=U (Below.refl w.heap.size w)
 have H:((r04_May.f a0_0 a0_1).bind λt508=>(if t508=true then((r03_Get.f k l1_2 a0_0).bind λt509=>(some (decide (t509>=a0_1)))) else(some false)))=some r:=h
 clear h
 replace H:=oB_ H
 obtain ⟨t508,A30,H⟩:=H
 replace H:(if t508=true then((r03_Get.f k l1_2 a0_0).bind λt509=>(some (decide (t509>=a0_1)))) else(some false))=some r:=H
 have A3:=Aside0.mk A30
 clear A30
 by_cases c4:t508=true
 rotate_left
 ·replace c4:=Bool.eq_false_iff.mpr c4
  subst c4
  have H1:(some false)=some r:=by rw [if_neg (show ¬ (false=true) by decide)] at H;exact H
  clear H
  have H:=H1
  clear H1
  obtain rfl:=sI_ H
  go_enter Try.func18,Try.ntmps18
  try go_wp2_with (first|((with_reducible refine gate_dst (N:=2) rfl ?_);refine box_event ?hg (N:=2) ?hd (cs:=#[.int .i64 a0_0,.int .i64 a0_1,.slice A0_2 l0_2.length c0_2,.slice A0_3 l0_3.length c0_3]) (t:=30) ?hr ?_;(case hd=>rfl);(case hg=>rfl);(case hr=>exact z10_10);intro gb506 hg w10 hbox hb;have BK506:=U (hbox);have GW506:=U ((by rw [hg];exact(below_size z10_0):w.heap.size<=gb506));have GE506:=U ((by rw [hg];exact(below_size z10_0):w.heap.size<=gb506));replace HB:=U (below_step z10_0 hb);clear hb hbox hg)|((with_reducible refine gate_dst (N:=3) rfl ?_);refine box_event ?hg (N:=3) ?hd (cs:=#[.int .i64 a1_0,.int .i64 a1_1,.slice A1_2 l1_2.length c1_2,.slice A1_3 l1_3.length c1_3]) (t:=30) ?hr ?_;(case hd=>rfl);(case hg=>rfl);(case hr=>exact z10_10);intro gb507 hg w11 hbox hb;have BK507:=U (hbox);have GW507:=U ((by rw [hg];exact(below_size z23_3):w.heap.size<=gb507));have GE507:=U ((by rw [hg];exact(below_size z23_3):w.heap.size<=gb507));replace HB:=U (below_step z23_3 hb);have NB506_507:=U ((by rw [hg];exact Nat.ne_of_lt (blk_lt (g:=gb506) (o:=.cells #[.int .i64 a0_0,.int .i64 a0_1,.slice A0_2 l0_2.length c0_2,.slice A0_3 l0_3.length c0_3] 30 (0,0)) z23_4):gb506≠gb507));have NB507_506:=U ((by rw [hg];exact Nat.ne_of_gt (blk_lt (g:=gb506) (o:=.cells #[.int .i64 a0_0,.int .i64 a0_1,.slice A0_2 l0_2.length c0_2,.slice A0_3 l0_3.length c0_3] 30 (0,0)) z23_4):gb507≠gb506));replace BK506:=U (blk_below (g:=gb506) (o:=.cells #[.int .i64 a0_0,.int .i64 a0_1,.slice A0_2 l0_2.length c0_2,.slice A0_3 l0_3.length c0_3] 30 (0,0)) z23_4 hb);clear hb hbox hg))
  have n0_:=U (blk_drew BK506.out)
  have n1_:=U (blk_drew BK507.out)
  have n2_:=U (below_drew1 HB.out)
  clear BK506
  clear BK507
  clear HB
  have BK506:=n0_
  have BK507:=n1_
  have HB:=n2_
  clear n0_ n1_ n2_
  refine start_ (n:=16) (S:=λw'=>w'.cell? ⟨gb506,0,none⟩=some (.int .i64 a0_0)/\w'.cell? ⟨gb506,1,none⟩=some (.int .i64 a0_1)/\w'.cell? ⟨gb506,2,none⟩=some (.slice A0_2 l0_2.length c0_2)/\w'.cell? ⟨gb506,3,none⟩=some (.slice A0_3 l0_3.length c0_3)) (ds:=[]) #[J,J,J,J,J,J,J,J,J,J,J,J,J,J,J,J] z3_17 rfl rfl ⟨(blk_cell BK506.out 0).trans rfl,(blk_cell BK506.out 1).trans rfl,(blk_cell BK506.out 2).trans rfl,(blk_cell BK506.out 3).trans rfl⟩ (λhHeld=>?_);refine with_tabW r05_Ahead.tab1 r05_Ahead.bits1 (λHT_ HW_=>?_)
  generalize w11.drew=w12 at BK506 BK507 HB hHeld ⊢
  refine pure_ (i:=0) (N:=some 5) (v:=?_) (a':=?_) #[Y,J,J,J,J,J,J,J,J,J,J,J,J,J,J,J] rfl rfl (any_of HT_.out z3_17) (λ_ _ _ h=>h) (Or.inl ⟨(by rfl),?_⟩) ?_ ?_
  rotate_left
  ·intro w'
   go_simp
   with_reducible rfl
  rotate_left
  ·exact z3_3
  refine take_ (i:=1) (N:=some 6) (v:=?_) (a':=?_) #[Y,Y,J,J,J,J,J,J,J,J,J,J,J,J,J,J] rfl rfl (take_ofW HT_.out HW_.out z3_17) (λ_ _ _ h=>h) (Or.inl ⟨(by rfl),?_⟩) hHeld ?_ ?_
  rotate_left
  ·rintro w' ⟨s0,s1,s2,s3⟩
   go_simp
   with_reducible rfl
  rotate_left
  ·exact z3_3
  refine one_ (i:=2) (N:=some 7) #[Y,Y,Y,J,J,J,J,J,J,J,J,J,J,J,J,J] rfl rfl (one_of HT_.out z3_17) (by decide) (λK hK=>?_)
  refine goes_ Try.func57 z3_17 rfl #[.agg #[.int .i64 a0_0,.int .i64 a0_1]] (by rfl) rfl rfl z10_2 ?_
  with_reducible refine(r04_May.calls a0_0 a0_1 false _ A3.out).mono ?_
  rintro e w13 ⟨rfl,hb⟩
  refine ⟨_,rfl,?_⟩
  have n0_:=U (blk_below (g:=gb506) (o:=.cells #[.int .i64 a0_0,.int .i64 a0_1,.slice A0_2 l0_2.length c0_2,.slice A0_3 l0_3.length c0_3] 30 (0,0)) z23_4 hb)
  have n1_:=U (blk_below (g:=gb507) (o:=.cells #[.int .i64 a1_0,.int .i64 a1_1,.slice A1_2 l1_2.length c1_2,.slice A1_3 l1_3.length c1_3] 30 (0,0)) z23_14 hb)
  have n2_:=U (below_step z23_5 hb)
  clear BK506
  clear BK507
  clear HB
  have BK506:=n0_
  have BK507:=n1_
  have HB:=n2_
  clear n0_ n1_ n2_
  (try clear hb)
  (try clear hb2)
  (try clear hk)
  (try clear hi)
  refine hK.out _ _ ⟨(blk_cell BK506.out 0).trans rfl,(blk_cell BK506.out 1).trans rfl,(blk_cell BK506.out 2).trans rfl,(blk_cell BK506.out 3).trans rfl⟩ (λhHeld=>?_)
  clear hK K
  refine norm_ (a':=?_) ?_ ?_
  rotate_left
  ·exact z23_12
  refine pure_ (i:=3) (N:=some 8) (v:=?_) (a':=?_) #[Y,Y,Y,Y,J,J,J,J,J,J,J,J,J,J,J,J] rfl rfl (any_of HT_.out z3_17) (λ_ _ _ h=>h) (Or.inl ⟨(by rfl),?_⟩) ?_ ?_
  rotate_left
  ·intro w'
   go_simp
   with_reducible rfl
  rotate_left
  ·exact z3_3
  refine pure_ (i:=4) (N:=some 9) (v:=undef) (a':=?_) #[Y,Y,Y,Y,Y,J,J,J,J,J,J,J,J,J,J,J] rfl rfl (any_of HT_.out z3_17) (λ_ _ _ h=>h) (Or.inr ⟨(by rfl),rfl⟩) ?_ ?_
  rotate_left
  ·exact z3_3
  refine pure_ (i:=5) (N:=some 10) (v:=undef) (a':=?_) #[Y,Y,Y,Y,Y,Y,J,J,J,J,J,J,J,J,J,J] rfl rfl (any_of HT_.out z3_17) (λ_ _ _ h=>h) (Or.inr ⟨(by rfl),rfl⟩) ?_ ?_
  rotate_left
  ·exact z3_3
  refine pure_ (i:=6) (N:=some 11) (v:=undef) (a':=?_) #[Y,Y,Y,Y,Y,Y,Y,J,J,J,J,J,J,J,J,J] rfl rfl (any_of HT_.out z3_17) (λ_ _ _ h=>h) (Or.inr ⟨(by rfl),rfl⟩) ?_ ?_
  rotate_left
  ·exact z3_3
  refine pure_ (i:=7) (N:=some 12) (v:=undef) (a':=?_) #[Y,Y,Y,Y,Y,Y,Y,Y,J,J,J,J,J,J,J,J] rfl rfl (any_of HT_.out z3_17) (λ_ _ _ h=>h) (Or.inr ⟨(by rfl),rfl⟩) ?_ ?_
  rotate_left
  ·exact z3_3
  refine pure_ (i:=8) (N:=some 13) (v:=undef) (a':=?_) #[Y,Y,Y,Y,Y,Y,Y,Y,Y,J,J,J,J,J,J,J] rfl rfl (any_of HT_.out z3_17) (λ_ _ _ h=>h) (Or.inr ⟨(by rfl),rfl⟩) ?_ ?_
  rotate_left
  ·exact z3_3
  refine pure_ (i:=9) (N:=some 14) (v:=undef) (a':=?_) #[Y,Y,Y,Y,Y,Y,Y,Y,Y,Y,J,J,J,J,J,J] rfl rfl (any_of HT_.out z3_17) (λ_ _ _ h=>h) (Or.inr ⟨(by rfl),rfl⟩) ?_ ?_
  rotate_left
  ·exact z3_3
  refine pure_ (i:=10) (N:=some 15) (v:=undef) (a':=?_) #[Y,Y,Y,Y,Y,Y,Y,Y,Y,Y,Y,J,J,J,J,J] rfl rfl (any_of HT_.out z3_17) (λ_ _ _ h=>h) (Or.inr ⟨(by rfl),rfl⟩) ?_ ?_
  rotate_left
  ·exact z3_3
  refine pure_ (i:=11) (N:=some 16) (v:=undef) (a':=?_) #[Y,Y,Y,Y,Y,Y,Y,Y,Y,Y,Y,Y,J,J,J,J] rfl rfl (any_of HT_.out z3_17) (λ_ _ _ h=>h) (Or.inr ⟨(by rfl),rfl⟩) ?_ ?_
  rotate_left
  ·exact z3_3
  refine pure_ (i:=12) (N:=some 17) (v:=undef) (a':=?_) #[Y,Y,Y,Y,Y,Y,Y,Y,Y,Y,Y,Y,Y,J,J,J] rfl rfl (any_of HT_.out z3_17) (λ_ _ _ h=>h) (Or.inr ⟨(by rfl),rfl⟩) ?_ ?_
  rotate_left
  ·exact z3_3
  refine pure_ (i:=13) (N:=some 18) (v:=undef) (a':=?_) #[Y,Y,Y,Y,Y,Y,Y,Y,Y,Y,Y,Y,Y,Y,J,J] rfl rfl (any_of HT_.out z3_17) (λ_ _ _ h=>h) (Or.inr ⟨(by rfl),rfl⟩) ?_ ?_
  rotate_left
  ·exact z3_3
  refine pure_ (i:=14) (N:=some 19) (v:=?_) (a':=?_) #[Y,Y,Y,Y,Y,Y,Y,Y,Y,Y,Y,Y,Y,Y,Y,J] rfl rfl (any_of HT_.out z3_17) (λ_ _ _ h=>h) (Or.inl ⟨(by rfl),?_⟩) ?_ ?_
  rotate_left
  ·intro w'
   go_simp
   with_reducible rfl
  rotate_left
  ·exact z3_3
  refine pure_ (i:=15) (N:=some 4) (v:=?_) (a':=?_) #[Y,Y,Y,Y,Y,Y,Y,Y,Y,Y,Y,Y,Y,Y,Y,Y] rfl rfl (any_of HT_.out z3_17) (λ_ _ _ h=>h) (Or.inl ⟨(by rfl),?_⟩) ?_ ?_
  rotate_left
  ·intro w'
   go_simp
   with_reducible rfl
  rotate_left
  ·exact z3_3
  refine done_ (done_of HT_.out z3_17) ?_
  try go_wp2
  go_ret
  exact ⟨z10_8,z23_5⟩
 subst c4
 have H1:((r03_Get.f k l1_2 a0_0).bind λt509=>(some (decide (t509>=a0_1))))=some r:=by rw [if_pos rfl] at H;exact H
 clear H
 have H:=H1
 clear H1
 replace H:=oB_ H
 obtain ⟨t509,A50,H⟩:=H
 replace H:(some (decide (t509>=a0_1)))=some r:=H
 have A5:=Aside0.mk A50
 clear A50
 obtain rfl:=sI_ H
 go_enter Try.func18,Try.ntmps18
 try go_wp2_with (first|((with_reducible refine gate_dst (N:=2) rfl ?_);refine box_event ?hg (N:=2) ?hd (cs:=#[.int .i64 a0_0,.int .i64 a0_1,.slice A0_2 l0_2.length c0_2,.slice A0_3 l0_3.length c0_3]) (t:=30) ?hr ?_;(case hd=>rfl);(case hg=>rfl);(case hr=>exact z10_10);intro gb506 hg w6 hbox hb;have BK506:=U (hbox);have GW506:=U ((by rw [hg];exact(below_size z10_0):w.heap.size<=gb506));have GE506:=U ((by rw [hg];exact(below_size z10_0):w.heap.size<=gb506));replace HB:=U (below_step z10_0 hb);clear hb hbox hg)|((with_reducible refine gate_dst (N:=3) rfl ?_);refine box_event ?hg (N:=3) ?hd (cs:=#[.int .i64 a1_0,.int .i64 a1_1,.slice A1_2 l1_2.length c1_2,.slice A1_3 l1_3.length c1_3]) (t:=30) ?hr ?_;(case hd=>rfl);(case hg=>rfl);(case hr=>exact z10_10);intro gb507 hg w7 hbox hb;have BK507:=U (hbox);have GW507:=U ((by rw [hg];exact(below_size z23_3):w.heap.size<=gb507));have GE507:=U ((by rw [hg];exact(below_size z23_3):w.heap.size<=gb507));replace HB:=U (below_step z23_3 hb);have NB506_507:=U ((by rw [hg];exact Nat.ne_of_lt (blk_lt (g:=gb506) (o:=.cells #[.int .i64 a0_0,.int .i64 a0_1,.slice A0_2 l0_2.length c0_2,.slice A0_3 l0_3.length c0_3] 30 (0,0)) z23_4):gb506≠gb507));have NB507_506:=U ((by rw [hg];exact Nat.ne_of_gt (blk_lt (g:=gb506) (o:=.cells #[.int .i64 a0_0,.int .i64 a0_1,.slice A0_2 l0_2.length c0_2,.slice A0_3 l0_3.length c0_3] 30 (0,0)) z23_4):gb507≠gb506));replace BK506:=U (blk_below (g:=gb506) (o:=.cells #[.int .i64 a0_0,.int .i64 a0_1,.slice A0_2 l0_2.length c0_2,.slice A0_3 l0_3.length c0_3] 30 (0,0)) z23_4 hb);clear hb hbox hg))
 have n0_:=U (blk_drew BK506.out)
 have n1_:=U (blk_drew BK507.out)
 have n2_:=U (below_drew1 HB.out)
 clear BK506
 clear BK507
 clear HB
 have BK506:=n0_
 have BK507:=n1_
 have HB:=n2_
 clear n0_ n1_ n2_
 refine start_ (n:=16) (S:=λw'=>w'.cell? ⟨gb506,0,none⟩=some (.int .i64 a0_0)/\w'.cell? ⟨gb506,1,none⟩=some (.int .i64 a0_1)/\w'.cell? ⟨gb506,2,none⟩=some (.slice A0_2 l0_2.length c0_2)/\w'.cell? ⟨gb506,3,none⟩=some (.slice A0_3 l0_3.length c0_3)/\w'.cell? ⟨gb507,0,none⟩=some (.int .i64 a1_0)/\w'.cell? ⟨gb507,1,none⟩=some (.int .i64 a1_1)/\w'.cell? ⟨gb507,2,none⟩=some (.slice A1_2 l1_2.length c1_2)/\w'.cell? ⟨gb507,3,none⟩=some (.slice A1_3 l1_3.length c1_3)) (ds:=[]) #[J,J,J,J,J,J,J,J,J,J,J,J,J,J,J,J] z3_17 rfl rfl ⟨(blk_cell BK506.out 0).trans rfl,(blk_cell BK506.out 1).trans rfl,(blk_cell BK506.out 2).trans rfl,(blk_cell BK506.out 3).trans rfl,(blk_cell BK507.out 0).trans rfl,(blk_cell BK507.out 1).trans rfl,(blk_cell BK507.out 2).trans rfl,(blk_cell BK507.out 3).trans rfl⟩ (λhHeld=>?_);refine with_tabW r05_Ahead.tab1 r05_Ahead.bits1 (λHT_ HW_=>?_)
 generalize w7.drew=w8 at BK506 BK507 HB hHeld ⊢
 refine pure_ (i:=0) (N:=some 5) (v:=?_) (a':=?_) #[Y,J,J,J,J,J,J,J,J,J,J,J,J,J,J,J] rfl rfl (any_of HT_.out z3_17) (λ_ _ _ h=>h) (Or.inl ⟨(by rfl),?_⟩) ?_ ?_
 rotate_left
 ·intro w'
  go_simp
  with_reducible rfl
 rotate_left
 ·exact z3_3
 refine take_ (i:=1) (N:=some 6) (v:=?_) (a':=?_) #[Y,Y,J,J,J,J,J,J,J,J,J,J,J,J,J,J] rfl rfl (take_ofW HT_.out HW_.out z3_17) (λ_ _ _ h=>h) (Or.inl ⟨(by rfl),?_⟩) hHeld ?_ ?_
 rotate_left
 ·rintro w' ⟨s0,s1,s2,s3,s4,s5,s6,s7⟩
  go_simp
  with_reducible rfl
 rotate_left
 ·exact z3_3
 refine one_ (i:=2) (N:=some 7) #[Y,Y,Y,J,J,J,J,J,J,J,J,J,J,J,J,J] rfl rfl (one_of HT_.out z3_17) (by decide) (λK hK=>?_)
 refine goes_ Try.func57 z3_17 rfl #[.agg #[.int .i64 a0_0,.int .i64 a0_1]] (by rfl) rfl rfl z10_2 ?_
 with_reducible refine(r04_May.calls a0_0 a0_1 true _ A3.out).mono ?_
 rintro e w9 ⟨rfl,hb⟩
 refine ⟨_,rfl,?_⟩
 have n0_:=U (blk_below (g:=gb506) (o:=.cells #[.int .i64 a0_0,.int .i64 a0_1,.slice A0_2 l0_2.length c0_2,.slice A0_3 l0_3.length c0_3] 30 (0,0)) z23_4 hb)
 have n1_:=U (blk_below (g:=gb507) (o:=.cells #[.int .i64 a1_0,.int .i64 a1_1,.slice A1_2 l1_2.length c1_2,.slice A1_3 l1_3.length c1_3] 30 (0,0)) z23_14 hb)
 have n2_:=U (below_step z23_5 hb)
 clear BK506
 clear BK507
 clear HB
 have BK506:=n0_
 have BK507:=n1_
 have HB:=n2_
 clear n0_ n1_ n2_
 (try clear hb)
 (try clear hb2)
 (try clear hk)
 (try clear hi)
 refine hK.out _ _ ⟨(blk_cell BK506.out 0).trans rfl,(blk_cell BK506.out 1).trans rfl,(blk_cell BK506.out 2).trans rfl,(blk_cell BK506.out 3).trans rfl,(blk_cell BK507.out 0).trans rfl,(blk_cell BK507.out 1).trans rfl,(blk_cell BK507.out 2).trans rfl,(blk_cell BK507.out 3).trans rfl⟩ (λhHeld=>?_)
 clear hK K
 refine norm_ (a':=?_) ?_ ?_
 rotate_left
 ·exact z23_12
 refine pure_ (i:=3) (N:=some 8) (v:=?_) (a':=?_) #[Y,Y,Y,Y,J,J,J,J,J,J,J,J,J,J,J,J] rfl rfl (any_of HT_.out z3_17) (λ_ _ _ h=>h) (Or.inl ⟨(by rfl),?_⟩) ?_ ?_
 rotate_left
 ·intro w'
  go_simp
  with_reducible rfl
 rotate_left
 ·exact z3_3
 refine pure_ (i:=4) (N:=some 9) (v:=?_) (a':=?_) #[Y,Y,Y,Y,Y,J,J,J,J,J,J,J,J,J,J,J] rfl rfl (any_of HT_.out z3_17) (λ_ _ _ h=>h) (Or.inl ⟨(by rfl),?_⟩) ?_ ?_
 rotate_left
 ·intro w'
  go_simp
  with_reducible rfl
 rotate_left
 ·exact z3_3
 refine pure_ (i:=6) (N:=some 11) (v:=?_) (a':=?_) #[Y,Y,Y,Y,Y,J,Y,J,J,J,J,J,J,J,J,J] rfl rfl (any_of HT_.out z3_17) (λ_ _ _ h=>h) (Or.inl ⟨(by rfl),?_⟩) ?_ ?_
 rotate_left
 ·intro w'
  go_simp
  with_reducible rfl
 rotate_left
 ·exact z3_3
 refine pure_ (i:=7) (N:=some 12) (v:=?_) (a':=?_) #[Y,Y,Y,Y,Y,J,Y,Y,J,J,J,J,J,J,J,J] rfl rfl (any_of HT_.out z3_17) (λ_ _ _ h=>h) (Or.inl ⟨(by rfl),?_⟩) ?_ ?_
 rotate_left
 ·intro w'
  go_simp
  with_reducible rfl
 rotate_left
 ·exact z3_3
 refine pure_ (i:=10) (N:=some 15) (v:=?_) (a':=?_) #[Y,Y,Y,Y,Y,J,Y,Y,J,J,Y,J,J,J,J,J] rfl rfl (any_of HT_.out z3_17) (λ_ _ _ h=>h) (Or.inl ⟨(by rfl),?_⟩) ?_ ?_
 rotate_left
 ·intro w'
  go_simp
  with_reducible rfl
 rotate_left
 ·exact z3_3
 refine pure_ (i:=11) (N:=some 16) (v:=?_) (a':=?_) #[Y,Y,Y,Y,Y,J,Y,Y,J,J,Y,Y,J,J,J,J] rfl rfl (any_of HT_.out z3_17) (λ_ _ _ h=>h) (Or.inl ⟨(by rfl),?_⟩) ?_ ?_
 rotate_left
 ·intro w'
  go_simp
  with_reducible rfl
 rotate_left
 ·exact z3_3
 refine take_ (i:=5) (N:=some 10) (v:=?_) (a':=?_) #[Y,Y,Y,Y,Y,Y,Y,Y,J,J,Y,Y,J,J,J,J] rfl rfl (take_ofW HT_.out HW_.out z3_17) (λ_ _ _ h=>h) (Or.inl ⟨(by rfl),?_⟩) hHeld ?_ ?_
 rotate_left
 ·rintro w' ⟨s0,s1,s2,s3,s4,s5,s6,s7⟩
  go_simp
  with_reducible rfl
 rotate_left
 ·exact z3_3
 refine take_ (i:=8) (N:=some 13) (v:=?_) (a':=?_) #[Y,Y,Y,Y,Y,Y,Y,Y,Y,J,Y,Y,J,J,J,J] rfl rfl (take_ofW HT_.out HW_.out z3_17) (λ_ _ _ h=>h) (Or.inl ⟨(by rfl),?_⟩) hHeld ?_ ?_
 rotate_left
 ·rintro w' ⟨s0,s1,s2,s3,s4,s5,s6,s7⟩
  go_simp
  with_reducible rfl
 rotate_left
 ·exact z3_3
 refine take_ (i:=12) (N:=some 17) (v:=?_) (a':=?_) #[Y,Y,Y,Y,Y,Y,Y,Y,Y,J,Y,Y,Y,J,J,J] rfl rfl (take_ofW HT_.out HW_.out z3_17) (λ_ _ _ h=>h) (Or.inl ⟨(by rfl),?_⟩) hHeld ?_ ?_
 rotate_left
 ·rintro w' ⟨s0,s1,s2,s3,s4,s5,s6,s7⟩
  go_simp
  with_reducible rfl
 rotate_left
 ·exact z3_3
 refine one_ (i:=9) (N:=some 14) #[Y,Y,Y,Y,Y,Y,Y,Y,Y,Y,Y,Y,Y,J,J,J] rfl rfl (one_of HT_.out z3_17) (by decide) (λK hK=>?_)
 refine goes_ Try.func58 z3_17 rfl #[.slice A1_2 l1_2.length c1_2,.int .i64 a0_0] (by rfl) rfl rfl z10_2 ?_
 with_reducible refine(r03_Get.calls k _ _ l1_2 a0_0 t509 _ ?side1 ?side2 A5.out).mono ?_
 (case side1=>repeat(first|exact(Kd.C_below HR1_2.out HB.out)|(with_reducible refine Kd.C_alloc ?_ _)|(with_reducible refine Kd.C_drewN ?_ _)|(with_reducible refine Kd.C_drew ?_)))
 (case side2=>exact HC1_2.out)
 rintro e w' ⟨rfl,⟨nd,rfl⟩⟩
 refine ⟨_,rfl,?_⟩
 refine hK.out _ _ ⟨(blk_cell BK506.out 0).trans rfl,(blk_cell BK506.out 1).trans rfl,(blk_cell BK506.out 2).trans rfl,(blk_cell BK506.out 3).trans rfl,(blk_cell BK507.out 0).trans rfl,(blk_cell BK507.out 1).trans rfl,(blk_cell BK507.out 2).trans rfl,(blk_cell BK507.out 3).trans rfl⟩ (λhHeld=>?_)
 clear hK K
 refine norm_ (a':=?_) ?_ ?_
 rotate_left
 ·show Act.put _ (some 14) _=_;simp only [Act.put,List.setIfInBounds_toArray,List.set_cons_zero,List.set_cons_succ,i64_w,i32_w];rfl
 refine pure_ (i:=13) (N:=some 18) (v:=?_) (a':=?_) #[Y,Y,Y,Y,Y,Y,Y,Y,Y,Y,Y,Y,Y,Y,J,J] rfl rfl (any_of HT_.out z3_17) (λ_ _ _ h=>h) (Or.inl ⟨(by rfl),?_⟩) ?_ ?_
 rotate_left
 ·intro w'
  go_simp
  with_reducible rfl
 rotate_left
 ·exact z3_3
 refine pure_ (i:=14) (N:=some 19) (v:=?_) (a':=?_) #[Y,Y,Y,Y,Y,Y,Y,Y,Y,Y,Y,Y,Y,Y,Y,J] rfl rfl (any_of HT_.out z3_17) (λ_ _ _ h=>h) (Or.inl ⟨(by rfl),?_⟩) ?_ ?_
 rotate_left
 ·intro w'
  go_simp
  with_reducible rfl
 rotate_left
 ·exact z3_3
 refine pure_ (i:=15) (N:=some 4) (v:=?_) (a':=?_) #[Y,Y,Y,Y,Y,Y,Y,Y,Y,Y,Y,Y,Y,Y,Y,Y] rfl rfl (any_of HT_.out z3_17) (λ_ _ _ h=>h) (Or.inl ⟨(by rfl),?_⟩) ?_ ?_
 rotate_left
 ·intro w'
  go_simp
  with_reducible rfl
 rotate_left
 ·exact z3_3
 refine done_ (done_of HT_.out z3_17) ?_
 try go_wp2
 go_ret
 exact ⟨z10_8,z23_5⟩
def r03_Within.l0:Nat->List Int->List Int->Int->Option (Bool)
 | 0,_,_,_=>none
 | k+1,x0,x1,x5=>if x5<=5 then((r03_Get.f k x0 x5).bind λt510=>((r03_Get.f k x1 x5).bind λt511=>(if t510 > t511 then(some false) else(r03_Within.l0 k x0 x1 (wrap64 (x5+1)))))) else(some true)
def r03_Within.f (k:Nat) (l0:List Int) (l1:List Int):Option (Bool):=r03_Within.l0 k l0 l1 1
theorem r03_Within.calls (k:Nat) (A0:Option Addr) (c0:Nat) (l0:List Int) (A1:Option Addr) (c1:Nat) (l1:List Int) (r:Bool) (w:World) (hr0:Kd.C (Kd.int .i64) w A0 l0.length l0) (hc0:l0.length<=c0) (hr1:Kd.C (Kd.int .i64) w A1 l1.length l1) (hc1:l1.length<=c1) (h:r03_Within.f k l0 l1=some r) :
  Calls Try.prog 19 #[.slice A0 l0.length c0,.slice A1 l1.length c1] w λe w'=>e = .returned (.bool r)/\Drawn0 w w':=by
 have HR0:=Aside0.mk hr0
 have HC0:=Aside0.mk hc0
 clear hr0 hc0
 have HR1:=Aside0.mk hr1
 have HC1:=Aside0.mk hc1
 clear hr1 hc1
 have H:(r03_Within.l0 k l0 l1 1)=some r:=h
 clear h
 have H':=Aside0.mk H
 clear H
 go_enter Try.func19,Try.ntmps19
 go_wp2
 go_loopg [5] k (λkq v5 w'=>∃ (x5_1:Int),v5 = .int .i64 x5_1/\Aside0 (r03_Within.l0 kq l0 l1 x5_1=some r)/\Aside0 (kq<=k)/\Drawn0 w w')
 case atStart=>exact ⟨(1),z10_4,H',⟨Nat.le_refl _⟩,z10_3⟩
 case round =>
 clear H'
 try clear c1
 try clear p2
 obtain ⟨x5_1,rfl,HA,HK1,⟨m1,rfl⟩⟩:=hrel
 cases gk with
 | zero=>exact absurd HA.out (by simp [r03_Within.l0])
 | succ k1 =>
 have H:=HA.out
 clear HA
 simp only [r03_Within.l0] at H
 by_cases c3:x5_1<=5
 rotate_left
 ·rw [if_neg c3] at H
  have c3b0:decide (x5_1<=5)=false:=dF_ c3
  clear c3
  obtain rfl:=sI_ H
  go_wp2
  go_ret
  exact ⟨z10_4,z10_3⟩
 rw [if_pos c3] at H
 have c3b0:decide (x5_1<=5)=true:=dT_ c3
 clear c3
 replace H:=oB_ H
 obtain ⟨t510,A40,H⟩:=H
 replace H:((r03_Get.f k1 l1 x5_1).bind λt511=>(if t510 > t511 then(some false) else(r03_Within.l0 k1 l0 l1 (wrap64 (x5_1+1)))))=some r:=H
 have A4:=Aside0.mk A40
 clear A40
 replace H:=oB_ H
 obtain ⟨t511,A50,H⟩:=H
 replace H:(if t510 > t511 then(some false) else(r03_Within.l0 k1 l0 l1 (wrap64 (x5_1+1))))=some r:=H
 have A5:=Aside0.mk A50
 clear A50
 by_cases c6:t510 > t511
 ·rw [if_pos c6] at H
  have c6b0:decide (t511<t510)=true:=dT_ c6
  clear c6
  obtain rfl:=sI_ H
  go_wp2_with (first|((with_reducible refine gate_callee (f:=58) rfl ?_);refine goesL_ (some 12) rfl rfl Try.func58 z3_17 rfl #[.slice A0 l0.length c0,.int .i64 x5_1] rfl z10_2 ?_;(with_reducible refine(r03_Get.calls k1 _ _ l0 x5_1 t510 _ ?side1 ?side2 A4.out).mono ?_);(case side1=>exact z10_6);(case side2=>exact HC0.out);rintro e w' ⟨rfl,⟨nd,rfl⟩⟩;refine ⟨_,rfl,?_⟩)|((with_reducible refine gate_callee (f:=58) rfl ?_);refine goesL_ (some 15) rfl rfl Try.func58 z3_17 rfl #[.slice A1 l1.length c1,.int .i64 x5_1] rfl z10_2 ?_;(with_reducible refine(r03_Get.calls k1 _ _ l1 x5_1 t511 _ ?side1 ?side2 A5.out).mono ?_);(case side1=>exact z23_10);(case side2=>exact HC1.out);rintro e w' ⟨rfl,⟨nd,rfl⟩⟩;refine ⟨_,rfl,?_⟩))
  go_ret
  exact ⟨z10_4,z10_3⟩
 rw [if_neg c6] at H
 have c6b0:decide (t511<t510)=false:=dF_ c6
 clear c6
 have H':=Aside0.mk H
 clear H
 go_wp2_with (first|((with_reducible refine gate_callee (f:=58) rfl ?_);refine goesL_ (some 12) rfl rfl Try.func58 z3_17 rfl #[.slice A0 l0.length c0,.int .i64 x5_1] rfl z10_2 ?_;(with_reducible refine(r03_Get.calls k1 _ _ l0 x5_1 t510 _ ?side1 ?side2 A4.out).mono ?_);(case side1=>exact z10_6);(case side2=>exact HC0.out);rintro e w' ⟨rfl,⟨nd,rfl⟩⟩;refine ⟨_,rfl,?_⟩)|((with_reducible refine gate_callee (f:=58) rfl ?_);refine goesL_ (some 15) rfl rfl Try.func58 z3_17 rfl #[.slice A1 l1.length c1,.int .i64 x5_1] rfl z10_2 ?_;(with_reducible refine(r03_Get.calls k1 _ _ l1 x5_1 t511 _ ?side1 ?side2 A5.out).mono ?_);(case side1=>exact z23_10);(case side2=>exact HC1.out);rintro e w' ⟨rfl,⟨nd,rfl⟩⟩;refine ⟨_,rfl,?_⟩))
 go_roundg k1
 case measure=>have:=HK1.out;omega
 case rel=>exact ⟨(wrap64 (x5_1+1)),z10_4,H',⟨(by have:=HK1.out;omega)⟩,z10_3⟩
def api_Event_59.f (l0:List (S30)):Option ((List (S30))):=(some (([]:List (S30)):List (S30))).bind λy512=>(if y512.length+l0.length<2199023255552 then(some (y512++l0)) else(none))
theorem api_Event_59.calls_some (P0_:Nat->Prop) (A0_:Addr) (c0:Nat) (l0:List (S30)) (r:List (S30)) (w:World) (hs0:Kd.V k30 30 w w.heap.size (λk_=>P0_ k_) (.slice (some A0_) l0.length c0) l0) (h:api_Event_59.f l0=some r) :
  Calls Try.prog 59 #[.slice (some A0_) l0.length c0] w λe w'=>∃ v0_:Value,e = .returned (v0_)/\Kd.N k30 30 w' w.heap.size (λk_=>(P0_ k_\/w.heap.size<=k_)) v0_ r/\Below w.heap.size w w':=by
 have HO0:=U (show Kd.V k30 30 w w.heap.size (λk_=>(P0_ k_\/w.heap.size<=k_)) (.slice (some A0_) l0.length c0) l0 from Kd.V_mono hs0 (λk_ hk=>.inl hk))
 have HB:=U (Below.refl w.heap.size w)
 have H:((some (([]:List (S30)):List (S30))).bind λy512=>(if y512.length+l0.length<2199023255552 then(some (y512++l0)) else(none)))=some r:=h
 clear h
 obtain ⟨y512,hy512⟩:∃ y_:List (S30),y_=(([]:List (S30))):=⟨_,rfl⟩
 replace H:(if y512.length+l0.length<2199023255552 then(some (y512++l0)) else(none))=some r:=by first|(rw [hy512];with_reducible exact H)|(have H2_:=(Option.bind_some _ _).symm.trans H;rw [hy512];with_reducible exact H2_)|(have H2_:=(Option.bind_some _ _).symm.trans H;with_reducible exact H2_)|with_reducible exact H|(rw [hy512];exact H)|exact H
 have Ny512:=Aside0.mk hy512
 clear hy512
 by_cases c2:y512.length+l0.length<2199023255552
 rotate_left
 ·rw [if_neg c2] at H
  exact absurd H (by simp)
 rw [if_pos c2] at H
 have LMc2:=Aside0.mk c2
 clear c2
 obtain ⟨y515,hy515⟩:∃ y_:List (S30),y_=(y512++l0):=⟨_,rfl⟩
 replace H:(some y515)=some r:=by first|(rw [hy515];with_reducible exact H)|(have H2_:=(Option.bind_some _ _).symm.trans H;rw [hy515];with_reducible exact H2_)|(have H2_:=(Option.bind_some _ _).symm.trans H;with_reducible exact H2_)|with_reducible exact H|(rw [hy515];exact H)|exact H
 have Ny515:=Aside0.mk hy515
 clear hy515
 obtain rfl:=sI_ H
 have hnil_:=λW:World=>Lib.run_eql_slice_nil (P:=Try.prog) W 38 30 (some A0_) l0.length c0 0 0 z3_17
 go_enter Try.func59,Try.ntmps59
 go_wp2_with (first|((with_reducible refine gate_dst (N:=5) rfl ?_);refine Kd.N_lit k30 _ 30 ?hg (N':=5) ?hd (xs:=([]:List (S30))) (inner:=[]) (ok:=(λk_=>(P0_ k_\/w.heap.size<=k_))) (okp:=(λk_=>(P0_ k_\/w.heap.size<=k_))) ?hr ?hp (λ_ hk=>hk) ((show ∀ k_,w.heap.size<=k_->(λk_=>(P0_ k_\/w.heap.size<=k_)) k_ from λk_ hk=>(.inr (Nat.le_trans (below_size z10_0) hk))) _ (Nat.le_refl _)) (Below.refl _ _) (Nat.le_refl _) (by simp) ?_;(case hd=>rfl);(case hg=>rfl);(case hr=>exact z10_10);(case hp=>exact(Reps.none _ _));intro v513 w3 ho4 hb hg_ hnew_;clear hg_ hnew_;(first|rw [<-Ny512.out] at ho4|(simp only [Int.reduceToNat] at ho4;rw [<-Ny512.out] at ho4));replace HO0:=U (Kd.V_elder' (by(with_reducible repeat(first|apply Kd.V_alloc|apply Kd.V_drewN|apply Kd.V_drew));exact HO0.out) (Kd.N_base ho4) hb);have HO514:=U (Kd.N_lower ho4 (below_size z10_0));replace HB:=U (below_step z10_0 hb);clear hb ho4)|((with_reducible refine gate_builtin (b:=.append) (xs:=#[.tmp 5,.tmp 6]) rfl ?_);at_builtin;refine Kd.N_append_rows k30 (w0:=w) w.heap.size rfl (.tmp 5) (.tmp 6) 38 30 (.agg #[(.int .i64 0),(.int .i64 0),(.slice none 0 0),(.slice none 0 0)]) 64 rfl Try.underlying38 info30 rfl (by decide) (by omega) v513 y512 l0 _ _ _ (λk_=>(P0_ k_\/w.heap.size<=k_)) (λk_=>((λk_=>(P0_ k_\/w.heap.size<=k_))) k_/\some k_≠(v513:Value).ownBlock) rfl rfl ?aO ?aR (λ_ hk=>hk) ?aF ?aB ?aS ?aL ?_;(case aR=>exact(by skip;exact Kd.V_F (e:=0) (base:=0) (Kd.V_mono (e:=0) (base:=0) (ok':=(λk_=>((λk_=>(P0_ k_\/w.heap.size<=k_))) k_/\some k_≠(v513:Value).ownBlock)) (HO0.out) (λk_ hk=>⟨hk.1,hk.2⟩))));(case aB=>exact z10_0);(case aF=>exact(λk_ hk=>(.inr (Nat.le_trans (below_size z10_0) hk))));(case aO=>exact(by(with_reducible repeat(first|apply Kd.N_alloc|apply Kd.N_drewN|apply Kd.N_drew));exact HO514.out));(case aS=>exact(below_size z10_0));(case aL=>have:=LMc2.out;omega);intro v516 w5 ho hb hg hat;rw [<-Ny515.out] at ho;replace HO0:=U (Kd.V_afterv (ok:=(λk_=>(P0_ k_\/w.heap.size<=k_))) (by(with_reducible repeat(first|apply Kd.V_alloc|apply Kd.V_drewN|apply Kd.V_drew));exact HO0.out) hg hat);replace HB:=U (hb);have HO517:=U (ho);clear HO514;clear ho hb hg hat))
 go_ret
 exact ⟨_,z10_8,(by(with_reducible repeat(first|apply Kd.N_alloc|apply Kd.N_drewN|apply Kd.N_drew));exact HO517.out),z10_0⟩
theorem api_Event_59.calls (P0_:Nat->Prop) (A0:Option Addr) (c0:Nat) (l0:List (S30)) (r:List (S30)) (w:World) (hs0:Kd.V k30 30 w w.heap.size (λk_=>P0_ k_) (.slice A0 l0.length c0) l0) (h:api_Event_59.f l0=some r) :
  Calls Try.prog 59 #[.slice A0 l0.length c0] w λe w'=>∃ v0_:Value,e = .returned (v0_)/\Kd.N k30 30 w' w.heap.size (λk_=>(P0_ k_\/w.heap.size<=k_)) v0_ r/\Below w.heap.size w w':=by
 cases A0 with
 | some A0_=>exact api_Event_59.calls_some P0_ _ c0 l0 r w hs0 h
 | none =>
 have hl:l0=[]:=by
  rcases Nat.eq_zero_or_pos l0.length with h0|h0
  ·exact List.length_eq_zero_iff.1 h0
  ·obtain ⟨ad,e,_⟩:=(Kd.V_reads' hs0).2.2.2.2 h0
   cases e
 subst hl
 obtain rfl:r=[]:=by
  simp [api_Event_59.f] at h
  first|exact h|exact h.symm
 have hnil_:=λW:World=>Lib.run_eql_slice_nil (P:=Try.prog) W 38 30 none 0 c0 0 0 z3_17
 clear h
 go_enter Try.func59,Try.ntmps59
 go_wp2
 go_ret
 exact ⟨_,rfl,(by first|exact Kd.R_nil _ _ _ _ _|exact Kd.N_nil _ _ _ _ _|exact Kd.V_nil _ _ _ _ _),Below.refl _ _⟩
def event_Order.less (a b:S25):Bool:=if a.f0<b.f0 then true else if a.f0=b.f0 then decide (a.f1<b.f1) else false
def event_Order.cmp (x y:S30):Int:=if wrap64 (ClockBase.sumS x.f1 - ClockBase.sumS y.f1)=0 then(if event_Order.less x.f0 y.f0=true then -1 else if event_Order.less y.f0 x.f0=true then 1 else 0) else wrap64 (ClockBase.sumS x.f1 - ClockBase.sumS y.f1)
def event_Order.lt (x y:S30):Bool:=decide (event_Order.cmp x y<0)
theorem event_Order.less_f (a b:S25):dots_Less.f a.f0 a.f1 b.f0 b.f1=some (event_Order.less a b):=by
 unfold dots_Less.f event_Order.less
 split
 ·rfl
 ·split<;>rfl
theorem event_Order.cmp_f (x y:S30):event_Order_1.f x.f0.f0 x.f0.f1 x.f1 x.f2 y.f0.f0 y.f0.f1 y.f1 y.f2=some (event_Order.cmp x y):=by
 unfold event_Order_1.f event_Order.cmp clock_Sum.f
 simp only [Option.bind_some,event_Order.less_f]
 split
 ·split
  ·rfl
  ·split<;>rfl
 ·rfl
theorem event_Order.less_iff (a b:S25):event_Order.less a b=true↔a.f0<b.f0\/a.f0=b.f0/\a.f1<b.f1:=by
 unfold event_Order.less
 split
 ·rename_i h
  exact ⟨λ_=>.inl h,λ_=>rfl⟩
 ·split
  ·rw [decide_eq_true_eq];omega
  ·simp only [Bool.false_eq_true,false_iff];omega
theorem event_Order.sum_in (l:List Int):0<=ClockBase.sumS l/\ClockBase.sumS l<=5242880:=by
 rw [ClockBase.sum_eq]
 have h:=ClockBase.good_of l
 have g:∀ i,i<5->0<=(ClockBase.ofL l).getD i 0/\(ClockBase.ofL l).getD i 0<=1048576:=λi hi=>by
  rw [List.getD_eq_getElem?_getD,List.getElem?_eq_getElem (by rw [h.1];exact hi)]
  exact h.2 _ (List.getElem_mem _)
 have g0:=g 0 (by omega)
 have g1:=g 1 (by omega)
 have g2:=g 2 (by omega)
 have g3:=g 3 (by omega)
 have g4:=g 4 (by omega)
 omega
theorem event_Order.lt_iff (x y:S30):event_Order.lt x y=true↔ClockBase.sumS x.f1<ClockBase.sumS y.f1\/ClockBase.sumS x.f1=ClockBase.sumS y.f1/\(x.f0.f0<y.f0.f0\/x.f0.f0=y.f0.f0/\x.f0.f1<y.f0.f1):=by
 have hx:=event_Order.sum_in x.f1
 have hy:=event_Order.sum_in y.f1
 have hw:wrap64 (ClockBase.sumS x.f1 - ClockBase.sumS y.f1)=ClockBase.sumS x.f1 - ClockBase.sumS y.f1:=by
  unfold wrap64
  omega
 have l1:=event_Order.less_iff x.f0 y.f0
 have l2:=event_Order.less_iff y.f0 x.f0
 unfold event_Order.lt event_Order.cmp
 rw [hw,decide_eq_true_eq]
 split
 ·split
  ·rename_i h1 h2
   have:=l1.mp h2
   omega
  ·rename_i h1 h2
   have n1:¬ (x.f0.f0<y.f0.f0\/x.f0.f0=y.f0.f0/\x.f0.f1<y.f0.f1):=λh=>h2 (l1.mpr h)
   split<;>omega
 ·omega
theorem event_Order.swo:Go.Sort.SWO event_Order.lt:=by
 have key:∀ x y,event_Order.lt x y=false↔¬ (ClockBase.sumS x.f1<ClockBase.sumS y.f1\/ClockBase.sumS x.f1=ClockBase.sumS y.f1/\(x.f0.f0<y.f0.f0\/x.f0.f0=y.f0.f0/\x.f0.f1<y.f0.f1)):=λx y=>by
  rw [<-event_Order.lt_iff,Bool.not_eq_true]
 refine ⟨λx=>(key x x).mpr (by omega),λx y z h1 h2=>?_,λx y z h1 h2=>?_⟩
 ·rw [event_Order.lt_iff] at *;omega
 ·rw [key] at *;omega
def event_Order.f (l0:List S30):Option (List S30):=if l0.length<2199023255552 then some (Srt.ordL event_Order.lt l0) else none
def event_Order.enc (rows:List (List Value)) (i:Nat):List Value:=rows.getD i [.int .i64 0,.int .i64 0,.slice none 0 0,.slice none 0 0]
theorem event_Order.z_K (w:World):k30.K w z30 [.int .i64 0,.int .i64 0,.slice none 0 0,.slice none 0 0]:=k30_mk w z30 (A2:=none) (c2:=0) (A3:=none) (c3:=0) (Nat.le_refl 0) (Kd.C_nil _ w) (Nat.le_refl 0) (Kd.C_nil _ w)
theorem event_Order.putRow_other {enc:Nat->List Value} {w:World} {g:Nat} {d:Array Nat} {j:Nat} (h:j≠g):(Go.Sort.putRowK enc 4 w g 0 d).heap[j]? = w.heap[j]?:=by
 unfold Go.Sort.putRowK Go.Sort.putRow Go.Sort.mapBlock
 simp only [Array.getElem?_modify]
 rw [if_neg (λe=>h e.symm)]
theorem event_Order.enc_len {rows:List (List Value)} (h:∀ c,c ∈ rows->c.length=4/\∀ u ∈ c,u.oneCell'=true) (i:Nat):(event_Order.enc rows i).length=4/\∀ u ∈ event_Order.enc rows i,u.oneCell'=true:=by
 unfold event_Order.enc
 rw [List.getD_eq_getElem?_getD]
 cases hc:rows[i]? with
 | none =>
  refine ⟨rfl,λu hu=>?_⟩
  simp only [Option.getD_none,List.mem_cons,List.not_mem_nil,or_false] at hu
  rcases hu with rfl|rfl|rfl|rfl<;>rfl
 | some c=>exact h c (List.mem_of_getElem? hc)
theorem event_Order.flat_at {enc:Nat->List Value} {d:Array Nat} {j:Nat} (h:j<d.size*4):(Go.Sort.flatK enc 4 d)[j]! = (enc d[j / 4]!)[j % 4]!:=Go.Sort.get_flatK enc 4 d j h
theorem event_Order.inner_at {rows:List (List Value)} {inner:List Value} (hrows:∀ (j:Nat) c,rows[j]? = some c->(inner.drop (j*4)).take 4=c/\c.length=4/\∀ u ∈ c,u.oneCell'=true) {j:Nat} (hj:j<rows.length*4) :
  inner[j]? = some (event_Order.enc rows (j / 4))[j % 4]!:=by
 have hq:j / 4<rows.length:=by omega
 have hc:rows[j / 4]? = some rows[j / 4]:=List.getElem?_eq_getElem hq
 obtain ⟨h1,h2,_⟩:=hrows _ _ hc
 have he:event_Order.enc rows (j / 4)=rows[j / 4]:=by
  unfold event_Order.enc
  rw [List.getD_eq_getElem?_getD,hc]
  rfl
 have h4:j % 4<(rows[j / 4]).length:=by omega
 have h3:((inner.drop (j / 4*4)).take 4)[j % 4]? = inner[j]?:=by
  rw [List.getElem?_take,if_pos (by omega),List.getElem?_drop,show j / 4*4+j % 4=j by omega]
 rw [<-h3,h1,he,List.getElem?_eq_getElem h4]
 exact congrArg some (getElem!_pos rows[j / 4] (j % 4) h4).symm
theorem event_Order.sorts (base:Nat) (ok:Nat->Prop) (v:Value) (xs:List S30) (w:World) (hN:Kd.N k30 30 w base ok v xs) (hn:xs.length<2199023255552) :
  Calls Try.prog 60 #[v,.func (.func 61) #[] #[]] w λe w'=>e = .returned (.tuple #[])/\Kd.N k30 30 w' base ok v (Srt.ordL event_Order.lt xs)/\(w'.os=w.os/\w'.tape=w.tape/\w'.output=w.output/\w.heap.size<=w'.heap.size/\∀ j,j<w.heap.size->some j≠v.ownBlock->w'.heap[j]? = w.heap[j]?):=by
 obtain ⟨hown,rows,hrl,hR,hF⟩:=hN
 obtain ⟨hR0,inner,ho,hrep⟩:=hR
 obtain ⟨hil,hv⟩:=ho
 have hrows:∀ (j:Nat) c,rows[j]? = some c->(inner.drop (j*4)).take 4=c/\c.length=4/\∀ u ∈ c,u.oneCell'=true:=λj c hc=>by
  have h:=hrep.2 j c hc
  have e:(inner.drop (j*4)).take 4=c:=h.1
  exact ⟨e,(by rw [<-e];exact h.2.1),(by rw [<-e];exact h.2.2)⟩
 have hmem:∀ c,c ∈ rows->c.length=4/\∀ u ∈ c,u.oneCell'=true:=λc hc=>by
  obtain ⟨j,hj⟩:=List.mem_iff_getElem?.mp hc
  exact(hrows j c hj).2
 rcases hv with ⟨rfl,hn0⟩|⟨g,cap,cur,rfl,hg,hh,hnc,hcm,hcs,htake⟩
 ·have hx:xs=[]:=List.eq_nil_of_length_eq_zero (by rw [<-hrl];exact hn0)
  subst hx
  refine(Srt.nil_sort _ _ w).mono λe w' ⟨he,hw⟩=>⟨he,?_,?_⟩
  ·rw [hw]
   exact Kd.N_nil _ _ _ _ _
  ·rw [hw]
   exact ⟨rfl,rfl,rfl,Nat.le_refl _,λ_ _ _=>rfl⟩
 ·have hsz:rows.length=xs.length:=hrl
  have hlt:g<w.heap.size:=blk_lt hh
  have htake:cur.toList.take (rows.length*4)=inner:=htake
  have hcs:cur.size=cap*4:=hcs
  have d0s:(Array.range xs.length).size=xs.length:=Array.size_range
  have d0a:∀ i,i<xs.length->(Array.range xs.length)[i]! = i:=λi hi=>by
   rw [getElem!_pos _ _ (by rw [d0s];exact hi),Array.getElem_range]
  have hH:Go.Sort.HoldsK (event_Order.enc rows) 4 w g 0 (Array.range xs.length):=λj hj=>by
   rw [Go.Sort.size_flatK,d0s] at hj
   refine ⟨?_,(by rw [Nat.zero_add];exact blk_frozen hh j)⟩
   rw [Nat.zero_add,blk_cell hh,event_Order.flat_at (by rw [d0s];exact hj),d0a _ (by omega)]
   have h:=event_Order.inner_at hrows (j:=j) (by omega)
   rw [<-htake,List.getElem?_take,if_pos (by omega)] at h
   rw [<-Array.getElem?_toList]
   exact h
  have R:RowK (event_Order.enc rows) 4 w g 0 (Array.range xs.length):=⟨λx=>(event_Order.enc_len hmem x).1,λx=>(event_Order.enc_len hmem x).2,hH,hlt⟩
  have elem:∀ W,(∀ j,j<w.heap.size->j≠g->W.heap[j]? = w.heap[j]?)->∀ x:Nat,k30.K W (xs.getD x z30) (event_Order.enc rows x):=λW hW x=>by
   by_cases hx:x<xs.length
   rotate_left
   ·have he:event_Order.enc rows x=[.int .i64 0,.int .i64 0,.slice none 0 0,.slice none 0 0]:=by
     unfold event_Order.enc
     rw [List.getD_eq_getElem?_getD,List.getElem?_eq_none (by omega)]
     rfl
    rw [he,List.getD_eq_getElem?_getD,List.getElem?_eq_none (by omega)]
    exact event_Order.z_K W
   have hc:rows[x]? = some rows[x]:=List.getElem?_eq_getElem (by omega)
   have he:event_Order.enc rows x=rows[x]:=by
    unfold event_Order.enc
    rw [List.getD_eq_getElem?_getD,hc]
    rfl
   rw [he,List.getD_eq_getElem?_getD,List.getElem?_eq_getElem hx]
   refine hF x _ _ (List.getElem?_eq_getElem hx) hc W λq hq hql=>hW q hql λe=>hq.2 ?_
   rw [e]
   rfl
  have C:Srt.CmpB Try.prog 61 #[] (event_Order.enc rows) 4 (λx y=>event_Order.cmp (xs.getD x z30) (xs.getD y z30)) g 0 (Array.range xs.length).size w:=λdk W hsz hW x y=>by
   have keep:∀ j,j<w.heap.size->j≠g->W.heap[j]? = w.heap[j]?:=λj hj hne=>(hW.b.block j hj).trans (event_Order.putRow_other hne)
   obtain ⟨A2,c2,A3,c3,ex,l2,g2,l3,g3⟩:=k30_open (elem W keep x)
   obtain ⟨B2,e2,B3,e3,ey,m2,o2,m3,o3⟩:=k30_open (elem W keep y)
   rw [ex,ey]
   exact event_Order_1.calls _ _ A2 c2 _ A3 c3 _ _ _ B2 e2 _ B3 e3 _ _ W g2 l2 g3 l3 o2 m2 o3 m3 (event_Order.cmp_f _ _)
  have sS:Go.Sort.SWO (ltOf (λx y=>event_Order.cmp (xs.getD x z30) (xs.getD y z30))):=⟨λx=>event_Order.swo.irrefl _,λx y z h1 h2=>event_Order.swo.trans _ _ _ h1 h2,λx y z h1 h2=>event_Order.swo.ntrans _ _ _ h1 h2⟩
  have X:Srt.Srt Try.prog 4 (event_Order.enc rows) (λx y=>event_Order.cmp (xs.getD x z30) (xs.getD y z30)) 61 #[] g 0 (Array.range xs.length) w :=
   ⟨Srt.lays,R,C,enters_of Try.func61 z3_17 rfl,sS,(by rw [d0s];omega)⟩
  have hc:=Srt.sortStable (event_Order.enc rows) (λx y=>event_Order.cmp (xs.getD x z30) (xs.getD y z30)) 61 #[] g 0 cap (Array.range xs.length) (Array.range xs.length) w w X rfl (Srt.SWB.start hH)
  rw [d0s] at hc
  simp only [hsz] at hown hR0 hF ⊢
  refine hc.mono λe w' ⟨he,d',S',M'⟩=>⟨he,?_,?_⟩
  ·have hds:d'.size=xs.length:=by rw [M'.out.1.size,d0s]
   have hxs:(Srt.seg (Array.range xs.length) 0 xs.length).map (λi=>xs.getD i z30)=xs:=by
    refine List.ext_getElem? λi=>?_
    unfold Srt.seg
    rw [List.getElem?_map,List.getElem?_map]
    by_cases hi:i<xs.length
    ·rw [List.getElem?_range' hi,List.getElem?_eq_getElem hi];simp only [Option.map_some,Nat.one_mul,Nat.zero_add];rw [d0a i hi,List.getD_eq_getElem?_getD,List.getElem?_eq_getElem hi];rfl
    ·rw [List.getElem?_eq_none (by rw [List.length_range'];omega),List.getElem?_eq_none (by omega)];rfl
   haveI:Inhabited S30:=⟨z30⟩
   have hord:(Srt.seg d' 0 xs.length).map (λi=>xs.getD i z30)=Srt.ordL event_Order.lt xs:=by
    have h:=Srt.merged_map (lt:=event_Order.lt) (λi:Nat=>xs.getD i z30) (λi j=>rfl) event_Order.swo sS M'.out
    rw [hxs] at h
    exact h
   rw [<-hord]
   have hHd:=S'.out.holds R (by rw [hds,d0s])
   obtain ⟨cur',hh',hs'⟩:∃ cur',w'.heap[g]? = some (.cells cur' 30 (0,0))/\cur'.size=cur.size:=by
    refine ⟨Go.Sort.putCells id 0 (Go.Sort.flatK (event_Order.enc rows) 4 d') cur,?_,(by unfold Go.Sort.putCells;rw [Array.size_mapIdx])⟩
    rw [S'.out.b.block g hlt]
    unfold Go.Sort.putRowK Go.Sort.putRow Go.Sort.mapBlock
    simp only [Array.getElem?_modify,hh,ite_true,Option.map_some,Go.Sort.onCells]
   have cell':∀ j,j<xs.length*4->cur'[j]? = some (event_Order.enc rows d'[j / 4]!)[j % 4]!:=λj hj=>by
    have h:=(hHd j (by rw [Go.Sort.size_flatK,hds];exact hj)).1
    rw [Nat.zero_add,blk_cell hh',event_Order.flat_at (by rw [hds];exact hj)] at h
    exact h
   refine ⟨hown,(Srt.seg d' 0 xs.length).map (event_Order.enc rows),(by rw [List.length_map,List.length_map]),⟨hR0,?_⟩,?_⟩
   ·have hl':((Srt.seg d' 0 xs.length).map (event_Order.enc rows)).length=xs.length:=by rw [List.length_map,Srt.seg_length]
    have hc4:xs.length*4<=cur'.size:=by rw [hs',hcs];exact Nat.mul_le_mul_right 4 (by omega)
    have hil':(cur'.toList.take (xs.length*4)).length=xs.length*4:=by rw [List.length_take];exact Nat.min_eq_left (by rw [show cur'.toList.length=cur'.size from rfl];exact hc4)
    refine ⟨cur'.toList.take (xs.length*4),⟨?_,.inr ⟨g,cap,cur',?_,hg,hh',?_,hcm,hs'.trans hcs,?_⟩⟩,?_,?_⟩
    ·rw [hl'];exact hil'
    ·rw [hl']
    ·rw [hl'];omega
    ·rw [hl'];rfl
    ·rw [hl'];exact hil'
    ·intro j p hj
     have hjl:j<xs.length:=by
      have:=(List.getElem?_eq_some_iff.mp hj).1
      rw [hl'] at this
      exact this
     rw [List.getElem?_map] at hj
     unfold Srt.seg at hj
     rw [List.getElem?_map,List.getElem?_range' hjl] at hj
     simp only [Option.map_some,Nat.one_mul,Nat.zero_add,Option.some.injEq] at hj
     subst hj
     have hel:=event_Order.enc_len hmem d'[j]!
     have hel1:=hel.1
     have e:((cur'.toList.take (xs.length*4)).drop (j*4)).take 4=event_Order.enc rows d'[j]!:=by
      refine List.ext_getElem? λq=>?_
      by_cases hq:q<4
      ·rw [List.getElem?_take,if_pos hq,List.getElem?_drop,List.getElem?_take,if_pos (by omega),Array.getElem?_toList,cell' _ (by omega),show(j*4+q) / 4=j by omega,show(j*4+q) % 4=q by omega]
       rw [List.getElem?_eq_getElem (by omega)]
       exact congrArg some (getElem!_pos (event_Order.enc rows d'[j]!) q (by omega))
      ·rw [List.getElem?_eq_none (by rw [List.length_take];omega),List.getElem?_eq_none (by omega)]
     exact ⟨e,(by rw [show(Kd.raw k30.sz).sz=4 from rfl,e];exact hel)⟩
   ·intro j x c hx hc
    rw [List.getElem?_map] at hx hc
    have hjl:j<xs.length:=by
     cases hq:(Srt.seg d' 0 xs.length)[j]? with
     | none=>rw [hq] at hx;cases hx
     | some q =>
      have:=(List.getElem?_eq_some_iff.mp hq).1
      rw [Srt.seg_length] at this
      exact this
    unfold Srt.seg at hx hc
    rw [List.getElem?_map,List.getElem?_range' hjl] at hx hc
    simp only [Option.map_some,Nat.one_mul,Nat.zero_add,Option.some.injEq] at hx hc
    subst hx hc
    obtain ⟨i,i1,i2,ei⟩:=M'.out.1.mem sS (i:=j) (Nat.zero_le j) hjl
    rw [ei,d0a i i2]
    have hc:rows[i]? = some rows[i]:=List.getElem?_eq_getElem (by omega)
    have he:event_Order.enc rows i=rows[i]:=by
     unfold event_Order.enc
     rw [List.getD_eq_getElem?_getD,hc]
     rfl
    rw [he,List.getD_eq_getElem?_getD,List.getElem?_eq_getElem i2]
    refine Kd.FK_step (hF i _ _ (List.getElem?_eq_getElem i2) hc) λq hq hql=>?_
    exact(S'.out.b.block q hql).trans (event_Order.putRow_other λe=>hq.2 (by rw [e];rfl))
  ·have b:=S'.out.b
   refine ⟨b.os,b.tape,b.output,S'.out.le,λj hj hne=>(b.block j hj).trans (event_Order.putRow_other λe=>hne ?_)⟩
   rw [e]
   rfl
theorem event_Order.calls (P0_:Nat->Prop) (A0:Option Addr) (c0:Nat) (l0:List (S30)) (r:List (S30)) (w:World) (hs0:Kd.V k30 30 w w.heap.size (λk_=>P0_ k_) (.slice A0 l0.length c0) l0) (h:event_Order.f l0=some r) :
  Calls Try.prog 20 #[.slice A0 l0.length c0] w λe w'=>∃ v0_:Value,e = .returned (v0_)/\Kd.N k30 30 w' w.heap.size (λk_=>(P0_ k_\/w.heap.size<=k_)) v0_ r/\Below w.heap.size w w':=by
 unfold event_Order.f at h
 split at h
 rotate_left
 ·cases h
 rename_i hlen
 obtain rfl:=sI_ h
 clear h
 have hcl:=api_Event_59.calls P0_ A0 c0 l0 l0 w hs0 (by unfold api_Event_59.f;simp only [Option.bind_some,List.nil_append,List.length_nil,Nat.zero_add];exact if_pos hlen)
 go_enter Try.func20,Try.ntmps20
 go_wp2_with (first|(go_at_call 59;refine hcl.mono ?_;rintro e w1 ⟨v0,rfl,hN,hb⟩;have hso:=event_Order.sorts _ _ _ _ _ hN hlen)|(go_at_call 60;refine hso.mono ?_;rintro e w2 ⟨rfl,hN2,k1,k2,k3,k4,k5⟩))
 go_ret
 refine ⟨_,rfl,hN2,k1.trans hb.os,k2.trans hb.tape,k3.trans hb.output,Nat.le_trans hb.size k4,λj hj=>?_⟩
 refine(k5 j (Nat.lt_of_lt_of_le hj hb.size) λe=>?_).trans (hb.block j hj)
 have:=Kd.N_base hN j e.symm
 omega
end Go.Proofs.Ytgocnchjpecafaa.PEv
