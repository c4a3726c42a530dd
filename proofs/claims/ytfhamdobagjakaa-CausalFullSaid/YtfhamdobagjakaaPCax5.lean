/- a part -/
import Derived.Test.YtfhamdobagjakaaPCax3
namespace Go.Proofs.Ytfhamdobagjakaa.PCa
open Go.RowKit Go.Proofs.YtfhamdobagjakaaW.PrintWords Go.Proofs.YtfhamdobagjakaaW.PrintLast Go.Proofs.YtfhamdobagjakaaW.PrintMore
attribute [local go_sem] max2_int min2_int max_two min_two max_three min_three max_four min_four
set_option linter.unusedVariables false
set_option linter.unusedSimpArgs false
set_option maxHeartbeats 8000000
set_option maxRecDepth 100000
theorem z5_1 {P:Prop} (h:P:=by repeat(first|(with_reducible first|exact HB.out|apply below_alloc|apply pw_below_drewN|apply below_drew1|refine below_set ?_ GE104.out|refine below_set ?_ GE105.out)|exact HB.out)):P:=h
theorem z5_2 {P:Prop} (h:P:=by(with_reducible repeat(first|refine blk_drewN ?_ _|refine blk_drew ?_|refine blk_alloc ?_ _));exact BK104.out):P:=h
theorem z5_3 {P:Prop} (h:P:=by simp only [Act.put,List.setIfInBounds_toArray,List.set_cons_zero,List.set_cons_succ,i64_w,i32_w];rfl):P:=h
theorem z5_4 {P:Prop} (h:P:=by repeat(first|(with_reducible first|exact HB.out|apply below_alloc|apply pw_below_drewN|apply below_drew1|refine below_set ?_ GE104.out)|exact HB.out)):P:=h
theorem z5_5 {P:Prop} (h:P:=by(try simp only [List.map_toArray,List.map_cons,List.map_nil]);first|done|rfl|(simp only [List.length_drop,List.length_take];rfl)):P:=h
theorem z5_6 {P:Prop} (h:P:=by(with_reducible repeat(first|refine blk_drewN ?_ _|refine blk_drew ?_|refine blk_alloc ?_ _));exact BK105.out):P:=h
theorem z5_8 {P:Prop} (h:P:=by repeat(first|exact(Kd.C_below HR0_2.out HB.out)|(with_reducible refine Kd.C_alloc ?_ _)|(with_reducible refine Kd.C_drewN ?_ _)|(with_reducible refine Kd.C_drew ?_))):P:=h
theorem z5_9 {P:Prop} (h:P:=by repeat(first|exact(Kd.C_below HR1_2.out HB.out)|(with_reducible refine Kd.C_alloc ?_ _)|(with_reducible refine Kd.C_drewN ?_ _)|(with_reducible refine Kd.C_drew ?_))):P:=h
theorem z5_10 {P:Prop} (h:P:=by repeat(first|(with_reducible first|exact HB.out|apply below_alloc|apply pw_below_drewN|apply below_drew1|refine below_set ?_ GE116.out)|exact HB.out)):P:=h
theorem z5_12 {P:Prop} (h:P:=by show Act.put _ (some 11) _=_;simp only [Act.put,List.setIfInBounds_toArray,List.set_cons_zero,List.set_cons_succ,i64_w,i32_w];rfl):P:=h
theorem z5_13 {P:Prop} (h:P:=by show Act.put _ (some 8) _=_;simp only [Act.put,List.setIfInBounds_toArray,List.set_cons_zero,List.set_cons_succ,i64_w,i32_w];rfl):P:=h
theorem z5_14 {P:Prop} (h:P:=by kernel_rfl):P:=h
def clock_Check.f (l0:List Int):Option (Int):=some (if ClockBase.okC l0=true then 0 else 1)
theorem clock_Check.calls (A0:Option Addr) (c0:Nat) (l0:List Int) (r:Int) (w:World) (hr0:Kd.C (Kd.int .i64) w A0 l0.length l0) (hc0:l0.length<=c0) (h:clock_Check.f l0=some r) :
  Calls Try.prog 52 #[.slice A0 l0.length c0] w λe w'=>e = .returned (.int .i64 r)/\Drawn0 w w':=by
 obtain rfl:=Option.some.inj h
 exact(ClockBase.check_calls A0 c0 l0 w hr0).mono λe w' hh=>⟨hh.1,⟨hh.2⟩⟩
def clock_Sum.f (l0:List Int):Option (Int):=some (ClockBase.sumS l0)
theorem clock_Sum.calls (A0:Option Addr) (c0:Nat) (l0:List Int) (r:Int) (w:World) (hr0:Kd.C (Kd.int .i64) w A0 l0.length l0) (hc0:l0.length<=c0) (h:clock_Sum.f l0=some r) :
  Calls Try.prog 100 #[.slice A0 l0.length c0] w λe w'=>e = .returned (.int .i64 r)/\Below w.heap.size w w':=by
 obtain rfl:=Option.some.inj h
 exact ClockBase.Sum_calls A0 c0 l0 w hr0
def event_Order_1.f (a0_0:Int) (a0_1:Int) (l0_2:List Int) (l0_3:List (S111)) (a1_0:Int) (a1_1:Int) (l1_2:List Int) (l1_3:List (S111)):Option (Int):=(clock_Sum.f l0_2).bind λt106=>((clock_Sum.f l1_2).bind λt107=>(if (wrap64 (t106 - t107))=0 then((dots_Less.f a0_0 a0_1 a1_0 a1_1).bind λt108=>(if t108=true then(some (-1)) else((dots_Less.f a1_0 a1_1 a0_0 a0_1).bind λt109=>(if t109=true then(some 1) else(some 0))))) else(some (wrap64 (t106 - t107)))))
def event_Order_1.T1:Bool×List (List Nat×List Nat):=(true,[([],[]),([0],[0]),([1],[1]),([],[]),([3],[3]),([4,2],[4]),([2,5],[2,5]),([6,5,0,1,2,3,4,5,6],[6])])
def event_Order_1.B1:List Nat:=[0,1,3,0,8,31,63,127]
theorem event_Order_1.tab1:rtab .any (opsOf Try.f99 1)=event_Order_1.T1:=by kernel_rfl
theorem event_Order_1.bits1:waitsOk event_Order_1.T1.2 event_Order_1.B1=true:=by kernel_rfl
theorem event_Order_1.calls (a0_0:Int) (a0_1:Int) (A0_2:Option Addr) (c0_2:Nat) (l0_2:List Int) (A0_3:Option Addr) (c0_3:Nat) (l0_3:List (S111)) (a1_0:Int) (a1_1:Int) (A1_2:Option Addr) (c1_2:Nat) (l1_2:List Int) (A1_3:Option Addr) (c1_3:Nat) (l1_3:List (S111)) (r:Int) (w:World) (hr0_2:Kd.C (Kd.int .i64) w A0_2 l0_2.length l0_2) (hc0_2:l0_2.length<=c0_2) (hr0_3:Kd.C k111 w A0_3 l0_3.length l0_3) (hc0_3:l0_3.length<=c0_3) (hr1_2:Kd.C (Kd.int .i64) w A1_2 l1_2.length l1_2) (hc1_2:l1_2.length<=c1_2) (hr1_3:Kd.C k111 w A1_3 l1_3.length l1_3) (hc1_3:l1_3.length<=c1_3) (h:event_Order_1.f a0_0 a0_1 l0_2 l0_3 a1_0 a1_1 l1_2 l1_3=some r) :
  Calls Try.prog 99 #[.agg #[.int .i64 a0_0,.int .i64 a0_1,.slice A0_2 l0_2.length c0_2,.slice A0_3 l0_3.length c0_3],.agg #[.int .i64 a1_0,.int .i64 a1_1,.slice A1_2 l1_2.length c1_2,.slice A1_3 l1_3.length c1_3]] w λe w'=>e = .returned (.int .i64 r)/\Below w.heap.size w w':=by
 have hu59:=Try.underlying59
 have hu54:=Try.underlying54
 have HR0_2:=Aside0.mk hr0_2
 have HC0_2:=Aside0.mk hc0_2
 clear hr0_2 hc0_2
 have HR0_3:=Aside0.mk hr0_3
 have HC0_3:=Aside0.mk hc0_3
 clear hr0_3 hc0_3
 have HR1_2:=Aside0.mk hr1_2
 have HC1_2:=Aside0.mk hc1_2
 clear hr1_2 hc1_2
 have HR1_3:=Aside0.mk hr1_3
 have HC1_3:=Aside0.mk hc1_3
 clear hr1_3 hc1_3
 have HB:=Aside0.mk (Below.refl w.heap.size w)
 have H:((clock_Sum.f l0_2).bind λt106=>((clock_Sum.f l1_2).bind λt107=>(if (wrap64 (t106 - t107))=0 then((dots_Less.f a0_0 a0_1 a1_0 a1_1).bind λt108=>(if t108=true then(some (-1)) else((dots_Less.f a1_0 a1_1 a0_0 a0_1).bind λt109=>(if t109=true then(some 1) else(some 0))))) else(some (wrap64 (t106 - t107))))))=some r:=h
 clear h
 replace H:=Option.bind_eq_some_iff.mp H
 obtain ⟨t106,A30,H⟩:=H
 replace H:((clock_Sum.f l1_2).bind λt107=>(if (wrap64 (t106 - t107))=0 then((dots_Less.f a0_0 a0_1 a1_0 a1_1).bind λt108=>(if t108=true then(some (-1)) else((dots_Less.f a1_0 a1_1 a0_0 a0_1).bind λt109=>(if t109=true then(some 1) else(some 0))))) else(some (wrap64 (t106 - t107)))))=some r:=H
 have A3:=Aside0.mk A30
 clear A30
 replace H:=Option.bind_eq_some_iff.mp H
 obtain ⟨t107,A40,H⟩:=H
 replace H:(if (wrap64 (t106 - t107))=0 then((dots_Less.f a0_0 a0_1 a1_0 a1_1).bind λt108=>(if t108=true then(some (-1)) else((dots_Less.f a1_0 a1_1 a0_0 a0_1).bind λt109=>(if t109=true then(some 1) else(some 0))))) else(some (wrap64 (t106 - t107))))=some r:=H
 have A4:=Aside0.mk A40
 clear A40
 by_cases c5:(wrap64 (t106 - t107))=0
 rotate_left
 ·rw [if_neg c5] at H
  have c5b0:((wrap64 (t106 - t107)) == 0)=false:=beq_eq_false_iff_ne.mpr c5
  have c5b1:((wrap64 (t106 - t107)) != 0)=true:=bne_iff_ne.mpr c5
  obtain rfl:=Option.some.inj H
  go_enter Try.func99,Try.ntmps99
  try go_wp2_with (first|((with_reducible refine gate_dst (N:=2) rfl ?_);refine box_event ?hg (N:=2) ?hd (cs:=#[.int .i64 a0_0,.int .i64 a0_1,.slice A0_2 l0_2.length c0_2,.slice A0_3 l0_3.length c0_3]) (t:=59) ?hr ?_;(case hd=>rfl);(case hg=>rfl);(case hr=>exact z3_4);intro gb104 hg w43 hbox hb;have BK104:=Aside0.mk (hbox);have GW104:=Aside0.mk ((by rw [hg];exact(below_size z3_1):w.heap.size<=gb104));have GE104:=Aside0.mk ((by rw [hg];exact(below_size z3_1):w.heap.size<=gb104));replace HB:=Aside0.mk (below_step z3_1 hb);clear hb hbox hg)|((with_reducible refine gate_dst (N:=3) rfl ?_);refine box_event ?hg (N:=3) ?hd (cs:=#[.int .i64 a1_0,.int .i64 a1_1,.slice A1_2 l1_2.length c1_2,.slice A1_3 l1_3.length c1_3]) (t:=59) ?hr ?_;(case hd=>rfl);(case hg=>rfl);(case hr=>exact z3_4);intro gb105 hg w44 hbox hb;have BK105:=Aside0.mk (hbox);have GW105:=Aside0.mk ((by rw [hg];exact(below_size z5_4):w.heap.size<=gb105));have GE105:=Aside0.mk ((by rw [hg];exact(below_size z5_4):w.heap.size<=gb105));replace HB:=Aside0.mk (below_step z5_4 hb);have NB104_105:=Aside0.mk ((by rw [hg];exact Nat.ne_of_lt (blk_lt (g:=gb104) (o:=.cells #[.int .i64 a0_0,.int .i64 a0_1,.slice A0_2 l0_2.length c0_2,.slice A0_3 l0_3.length c0_3] 59 (0,0)) z5_2):gb104≠gb105));have NB105_104:=Aside0.mk ((by rw [hg];exact Nat.ne_of_gt (blk_lt (g:=gb104) (o:=.cells #[.int .i64 a0_0,.int .i64 a0_1,.slice A0_2 l0_2.length c0_2,.slice A0_3 l0_3.length c0_3] 59 (0,0)) z5_2):gb105≠gb104));replace BK104:=Aside0.mk (blk_below (g:=gb104) (o:=.cells #[.int .i64 a0_0,.int .i64 a0_1,.slice A0_2 l0_2.length c0_2,.slice A0_3 l0_3.length c0_3] 59 (0,0)) z5_2 hb);clear hb hbox hg))
  have n0_:=Aside0.mk (blk_drew BK104.out)
  have n1_:=Aside0.mk (blk_drew BK105.out)
  have n2_:=Aside0.mk (below_drew1 HB.out)
  clear BK104
  clear BK105
  clear HB
  have BK104:=n0_
  have BK105:=n1_
  have HB:=n2_
  clear n0_ n1_ n2_
  refine start_ (n:=8) (S:=λw'=>w'.cell? ⟨gb104,0,none⟩=some (.int .i64 a0_0)/\w'.cell? ⟨gb104,1,none⟩=some (.int .i64 a0_1)/\w'.cell? ⟨gb104,2,none⟩=some (.slice A0_2 l0_2.length c0_2)/\w'.cell? ⟨gb104,3,none⟩=some (.slice A0_3 l0_3.length c0_3)/\w'.cell? ⟨gb105,0,none⟩=some (.int .i64 a1_0)/\w'.cell? ⟨gb105,1,none⟩=some (.int .i64 a1_1)/\w'.cell? ⟨gb105,2,none⟩=some (.slice A1_2 l1_2.length c1_2)/\w'.cell? ⟨gb105,3,none⟩=some (.slice A1_3 l1_3.length c1_3)) (ds:=[]) #[false,false,false,false,false,false,false,false] z5_14 rfl rfl ⟨(blk_cell BK104.out 0).trans rfl,(blk_cell BK104.out 1).trans rfl,(blk_cell BK104.out 2).trans rfl,(blk_cell BK104.out 3).trans rfl,(blk_cell BK105.out 0).trans rfl,(blk_cell BK105.out 1).trans rfl,(blk_cell BK105.out 2).trans rfl,(blk_cell BK105.out 3).trans rfl⟩ (λhHeld=>?_);refine with_tabW event_Order_1.tab1 event_Order_1.bits1 (λHT_ HW_=>?_)
  generalize w44.drew=w45 at BK104 BK105 HB hHeld ⊢
  refine pure_ (i:=0) (N:=some 6) (v:=?_) (a':=?_) #[true,false,false,false,false,false,false,false] rfl rfl (any_of HT_.out z5_14) (λ_ _ _ h=>h) (Or.inl ⟨(by rfl),?_⟩) ?_ ?_
  rotate_left
  ·intro w'
   go_simp
   with_reducible rfl
  rotate_left
  ·exact z5_3
  refine pure_ (i:=3) (N:=some 9) (v:=?_) (a':=?_) #[true,false,false,true,false,false,false,false] rfl rfl (any_of HT_.out z5_14) (λ_ _ _ h=>h) (Or.inl ⟨(by rfl),?_⟩) ?_ ?_
  rotate_left
  ·intro w'
   go_simp
   with_reducible rfl
  rotate_left
  ·exact z5_3
  refine take_ (i:=1) (N:=some 7) (v:=?_) (a':=?_) #[true,true,false,true,false,false,false,false] rfl rfl (take_ofW HT_.out HW_.out z5_14) (λ_ _ _ h=>h) (Or.inl ⟨(by rfl),?_⟩) hHeld ?_ ?_
  rotate_left
  ·rintro w' ⟨s0,s1,s2,s3,s4,s5,s6,s7⟩
   go_simp
   with_reducible rfl
  rotate_left
  ·exact z5_3
  refine take_ (i:=4) (N:=some 10) (v:=?_) (a':=?_) #[true,true,false,true,true,false,false,false] rfl rfl (take_ofW HT_.out HW_.out z5_14) (λ_ _ _ h=>h) (Or.inl ⟨(by rfl),?_⟩) hHeld ?_ ?_
  rotate_left
  ·rintro w' ⟨s0,s1,s2,s3,s4,s5,s6,s7⟩
   go_simp
   with_reducible rfl
  rotate_left
  ·exact z5_3
  refine one_ (i:=2) (N:=some 8) #[true,true,true,true,true,false,false,false] rfl rfl (one_of HT_.out z5_14) (by decide) (λK hK=>?_)
  refine goes_ Try.func100 z5_14 rfl #[.slice A0_2 l0_2.length c0_2] (by rfl) rfl rfl z5_5 ?_
  with_reducible refine(clock_Sum.calls _ _ l0_2 t106 _ ?side1 ?side2 A3.out).mono ?_
  (case side1=>exact z5_8)
  (case side2=>exact HC0_2.out)
  rintro e w46 ⟨rfl,hb⟩
  refine ⟨_,rfl,?_⟩
  have n0_:=Aside0.mk (blk_below (g:=gb104) (o:=.cells #[.int .i64 a0_0,.int .i64 a0_1,.slice A0_2 l0_2.length c0_2,.slice A0_3 l0_3.length c0_3] 59 (0,0)) z5_2 hb)
  have n1_:=Aside0.mk (blk_below (g:=gb105) (o:=.cells #[.int .i64 a1_0,.int .i64 a1_1,.slice A1_2 l1_2.length c1_2,.slice A1_3 l1_3.length c1_3] 59 (0,0)) z5_6 hb)
  have n2_:=Aside0.mk (below_step z5_1 hb)
  clear BK104
  clear BK105
  clear HB
  have BK104:=n0_
  have BK105:=n1_
  have HB:=n2_
  clear n0_ n1_ n2_
  (try clear hb)
  (try clear hb2)
  (try clear hk)
  (try clear hi)
  refine hK.out _ _ ⟨(blk_cell BK104.out 0).trans rfl,(blk_cell BK104.out 1).trans rfl,(blk_cell BK104.out 2).trans rfl,(blk_cell BK104.out 3).trans rfl,(blk_cell BK105.out 0).trans rfl,(blk_cell BK105.out 1).trans rfl,(blk_cell BK105.out 2).trans rfl,(blk_cell BK105.out 3).trans rfl⟩ (λhHeld=>?_)
  clear hK K
  refine norm_ (a':=?_) ?_ ?_
  rotate_left
  ·exact z5_13
  refine one_ (i:=5) (N:=some 11) #[true,true,true,true,true,true,false,false] rfl rfl (one_of HT_.out z5_14) (by decide) (λK hK=>?_)
  refine goes_ Try.func100 z5_14 rfl #[.slice A1_2 l1_2.length c1_2] (by rfl) rfl rfl z5_5 ?_
  with_reducible refine(clock_Sum.calls _ _ l1_2 t107 _ ?side1 ?side2 A4.out).mono ?_
  (case side1=>exact z5_9)
  (case side2=>exact HC1_2.out)
  rintro e w47 ⟨rfl,hb⟩
  refine ⟨_,rfl,?_⟩
  have n0_:=Aside0.mk (blk_below (g:=gb104) (o:=.cells #[.int .i64 a0_0,.int .i64 a0_1,.slice A0_2 l0_2.length c0_2,.slice A0_3 l0_3.length c0_3] 59 (0,0)) z5_2 hb)
  have n1_:=Aside0.mk (blk_below (g:=gb105) (o:=.cells #[.int .i64 a1_0,.int .i64 a1_1,.slice A1_2 l1_2.length c1_2,.slice A1_3 l1_3.length c1_3] 59 (0,0)) z5_6 hb)
  have n2_:=Aside0.mk (below_step z5_1 hb)
  clear BK104
  clear BK105
  clear HB
  have BK104:=n0_
  have BK105:=n1_
  have HB:=n2_
  clear n0_ n1_ n2_
  (try clear hb)
  (try clear hb2)
  (try clear hk)
  (try clear hi)
  refine hK.out _ _ ⟨(blk_cell BK104.out 0).trans rfl,(blk_cell BK104.out 1).trans rfl,(blk_cell BK104.out 2).trans rfl,(blk_cell BK104.out 3).trans rfl,(blk_cell BK105.out 0).trans rfl,(blk_cell BK105.out 1).trans rfl,(blk_cell BK105.out 2).trans rfl,(blk_cell BK105.out 3).trans rfl⟩ (λhHeld=>?_)
  clear hK K
  refine norm_ (a':=?_) ?_ ?_
  rotate_left
  ·exact z5_12
  refine pure_ (i:=6) (N:=some 12) (v:=?_) (a':=?_) #[true,true,true,true,true,true,true,false] rfl rfl (any_of HT_.out z5_14) (λ_ _ _ h=>h) (Or.inl ⟨(by rfl),?_⟩) ?_ ?_
  rotate_left
  ·intro w'
   go_simp
   with_reducible rfl
  rotate_left
  ·exact z5_3
  refine pure_ (i:=7) (N:=some 5) (v:=?_) (a':=?_) #[true,true,true,true,true,true,true,true] rfl rfl (any_of HT_.out z5_14) (λ_ _ _ h=>h) (Or.inl ⟨(by rfl),?_⟩) ?_ ?_
  rotate_left
  ·intro w'
   go_simp
   with_reducible rfl
  rotate_left
  ·exact z5_3
  refine done_ (done_of HT_.out z5_14) ?_
  try go_wp2
  go_ret
  exact ⟨z3_5,z5_1⟩
 rw [if_pos c5] at H
 have c5b0:((wrap64 (t106 - t107)) == 0)=true:=beq_iff_eq.mpr c5
 have c5b1:((wrap64 (t106 - t107)) != 0)=false:=bne_eq_false_iff_eq.mpr c5
 clear c5
 replace H:=Option.bind_eq_some_iff.mp H
 obtain ⟨t108,A60,H⟩:=H
 replace H:(if t108=true then(some (-1)) else((dots_Less.f a1_0 a1_1 a0_0 a0_1).bind λt109=>(if t109=true then(some 1) else(some 0))))=some r:=H
 have A6:=Aside0.mk A60
 clear A60
 by_cases c7:t108=true
 ·subst c7
  have H1:(some (-1))=some r:=by rw [if_pos rfl] at H;exact H
  clear H
  have H:=H1
  clear H1
  obtain rfl:=Option.some.inj H
  go_enter Try.func99,Try.ntmps99
  try go_wp2_with (first|((with_reducible refine gate_dst (N:=2) rfl ?_);refine box_event ?hg (N:=2) ?hd (cs:=#[.int .i64 a0_0,.int .i64 a0_1,.slice A0_2 l0_2.length c0_2,.slice A0_3 l0_3.length c0_3]) (t:=59) ?hr ?_;(case hd=>rfl);(case hg=>rfl);(case hr=>exact z3_4);intro gb104 hg w8 hbox hb;have BK104:=Aside0.mk (hbox);have GW104:=Aside0.mk ((by rw [hg];exact(below_size z3_1):w.heap.size<=gb104));have GE104:=Aside0.mk ((by rw [hg];exact(below_size z3_1):w.heap.size<=gb104));replace HB:=Aside0.mk (below_step z3_1 hb);clear hb hbox hg)|((with_reducible refine gate_dst (N:=3) rfl ?_);refine box_event ?hg (N:=3) ?hd (cs:=#[.int .i64 a1_0,.int .i64 a1_1,.slice A1_2 l1_2.length c1_2,.slice A1_3 l1_3.length c1_3]) (t:=59) ?hr ?_;(case hd=>rfl);(case hg=>rfl);(case hr=>exact z3_4);intro gb105 hg w9 hbox hb;have BK105:=Aside0.mk (hbox);have GW105:=Aside0.mk ((by rw [hg];exact(below_size z5_4):w.heap.size<=gb105));have GE105:=Aside0.mk ((by rw [hg];exact(below_size z5_4):w.heap.size<=gb105));replace HB:=Aside0.mk (below_step z5_4 hb);have NB104_105:=Aside0.mk ((by rw [hg];exact Nat.ne_of_lt (blk_lt (g:=gb104) (o:=.cells #[.int .i64 a0_0,.int .i64 a0_1,.slice A0_2 l0_2.length c0_2,.slice A0_3 l0_3.length c0_3] 59 (0,0)) z5_2):gb104≠gb105));have NB105_104:=Aside0.mk ((by rw [hg];exact Nat.ne_of_gt (blk_lt (g:=gb104) (o:=.cells #[.int .i64 a0_0,.int .i64 a0_1,.slice A0_2 l0_2.length c0_2,.slice A0_3 l0_3.length c0_3] 59 (0,0)) z5_2):gb105≠gb104));replace BK104:=Aside0.mk (blk_below (g:=gb104) (o:=.cells #[.int .i64 a0_0,.int .i64 a0_1,.slice A0_2 l0_2.length c0_2,.slice A0_3 l0_3.length c0_3] 59 (0,0)) z5_2 hb);clear hb hbox hg))
  have n0_:=Aside0.mk (blk_drew BK104.out)
  have n1_:=Aside0.mk (blk_drew BK105.out)
  have n2_:=Aside0.mk (below_drew1 HB.out)
  clear BK104
  clear BK105
  clear HB
  have BK104:=n0_
  have BK105:=n1_
  have HB:=n2_
  clear n0_ n1_ n2_
  refine start_ (n:=8) (S:=λw'=>w'.cell? ⟨gb104,0,none⟩=some (.int .i64 a0_0)/\w'.cell? ⟨gb104,1,none⟩=some (.int .i64 a0_1)/\w'.cell? ⟨gb104,2,none⟩=some (.slice A0_2 l0_2.length c0_2)/\w'.cell? ⟨gb104,3,none⟩=some (.slice A0_3 l0_3.length c0_3)/\w'.cell? ⟨gb105,0,none⟩=some (.int .i64 a1_0)/\w'.cell? ⟨gb105,1,none⟩=some (.int .i64 a1_1)/\w'.cell? ⟨gb105,2,none⟩=some (.slice A1_2 l1_2.length c1_2)/\w'.cell? ⟨gb105,3,none⟩=some (.slice A1_3 l1_3.length c1_3)) (ds:=[]) #[false,false,false,false,false,false,false,false] z5_14 rfl rfl ⟨(blk_cell BK104.out 0).trans rfl,(blk_cell BK104.out 1).trans rfl,(blk_cell BK104.out 2).trans rfl,(blk_cell BK104.out 3).trans rfl,(blk_cell BK105.out 0).trans rfl,(blk_cell BK105.out 1).trans rfl,(blk_cell BK105.out 2).trans rfl,(blk_cell BK105.out 3).trans rfl⟩ (λhHeld=>?_);refine with_tabW event_Order_1.tab1 event_Order_1.bits1 (λHT_ HW_=>?_)
  generalize w9.drew=w10 at BK104 BK105 HB hHeld ⊢
  refine pure_ (i:=0) (N:=some 6) (v:=?_) (a':=?_) #[true,false,false,false,false,false,false,false] rfl rfl (any_of HT_.out z5_14) (λ_ _ _ h=>h) (Or.inl ⟨(by rfl),?_⟩) ?_ ?_
  rotate_left
  ·intro w'
   go_simp
   with_reducible rfl
  rotate_left
  ·exact z5_3
  refine pure_ (i:=3) (N:=some 9) (v:=?_) (a':=?_) #[true,false,false,true,false,false,false,false] rfl rfl (any_of HT_.out z5_14) (λ_ _ _ h=>h) (Or.inl ⟨(by rfl),?_⟩) ?_ ?_
  rotate_left
  ·intro w'
   go_simp
   with_reducible rfl
  rotate_left
  ·exact z5_3
  refine take_ (i:=1) (N:=some 7) (v:=?_) (a':=?_) #[true,true,false,true,false,false,false,false] rfl rfl (take_ofW HT_.out HW_.out z5_14) (λ_ _ _ h=>h) (Or.inl ⟨(by rfl),?_⟩) hHeld ?_ ?_
  rotate_left
  ·rintro w' ⟨s0,s1,s2,s3,s4,s5,s6,s7⟩
   go_simp
   with_reducible rfl
  rotate_left
  ·exact z5_3
  refine take_ (i:=4) (N:=some 10) (v:=?_) (a':=?_) #[true,true,false,true,true,false,false,false] rfl rfl (take_ofW HT_.out HW_.out z5_14) (λ_ _ _ h=>h) (Or.inl ⟨(by rfl),?_⟩) hHeld ?_ ?_
  rotate_left
  ·rintro w' ⟨s0,s1,s2,s3,s4,s5,s6,s7⟩
   go_simp
   with_reducible rfl
  rotate_left
  ·exact z5_3
  refine one_ (i:=2) (N:=some 8) #[true,true,true,true,true,false,false,false] rfl rfl (one_of HT_.out z5_14) (by decide) (λK hK=>?_)
  refine goes_ Try.func100 z5_14 rfl #[.slice A0_2 l0_2.length c0_2] (by rfl) rfl rfl z5_5 ?_
  with_reducible refine(clock_Sum.calls _ _ l0_2 t106 _ ?side1 ?side2 A3.out).mono ?_
  (case side1=>exact z5_8)
  (case side2=>exact HC0_2.out)
  rintro e w11 ⟨rfl,hb⟩
  refine ⟨_,rfl,?_⟩
  have n0_:=Aside0.mk (blk_below (g:=gb104) (o:=.cells #[.int .i64 a0_0,.int .i64 a0_1,.slice A0_2 l0_2.length c0_2,.slice A0_3 l0_3.length c0_3] 59 (0,0)) z5_2 hb)
  have n1_:=Aside0.mk (blk_below (g:=gb105) (o:=.cells #[.int .i64 a1_0,.int .i64 a1_1,.slice A1_2 l1_2.length c1_2,.slice A1_3 l1_3.length c1_3] 59 (0,0)) z5_6 hb)
  have n2_:=Aside0.mk (below_step z5_1 hb)
  clear BK104
  clear BK105
  clear HB
  have BK104:=n0_
  have BK105:=n1_
  have HB:=n2_
  clear n0_ n1_ n2_
  (try clear hb)
  (try clear hb2)
  (try clear hk)
  (try clear hi)
  refine hK.out _ _ ⟨(blk_cell BK104.out 0).trans rfl,(blk_cell BK104.out 1).trans rfl,(blk_cell BK104.out 2).trans rfl,(blk_cell BK104.out 3).trans rfl,(blk_cell BK105.out 0).trans rfl,(blk_cell BK105.out 1).trans rfl,(blk_cell BK105.out 2).trans rfl,(blk_cell BK105.out 3).trans rfl⟩ (λhHeld=>?_)
  clear hK K
  refine norm_ (a':=?_) ?_ ?_
  rotate_left
  ·exact z5_13
  refine one_ (i:=5) (N:=some 11) #[true,true,true,true,true,true,false,false] rfl rfl (one_of HT_.out z5_14) (by decide) (λK hK=>?_)
  refine goes_ Try.func100 z5_14 rfl #[.slice A1_2 l1_2.length c1_2] (by rfl) rfl rfl z5_5 ?_
  with_reducible refine(clock_Sum.calls _ _ l1_2 t107 _ ?side1 ?side2 A4.out).mono ?_
  (case side1=>exact z5_9)
  (case side2=>exact HC1_2.out)
  rintro e w12 ⟨rfl,hb⟩
  refine ⟨_,rfl,?_⟩
  have n0_:=Aside0.mk (blk_below (g:=gb104) (o:=.cells #[.int .i64 a0_0,.int .i64 a0_1,.slice A0_2 l0_2.length c0_2,.slice A0_3 l0_3.length c0_3] 59 (0,0)) z5_2 hb)
  have n1_:=Aside0.mk (blk_below (g:=gb105) (o:=.cells #[.int .i64 a1_0,.int .i64 a1_1,.slice A1_2 l1_2.length c1_2,.slice A1_3 l1_3.length c1_3] 59 (0,0)) z5_6 hb)
  have n2_:=Aside0.mk (below_step z5_1 hb)
  clear BK104
  clear BK105
  clear HB
  have BK104:=n0_
  have BK105:=n1_
  have HB:=n2_
  clear n0_ n1_ n2_
  (try clear hb)
  (try clear hb2)
  (try clear hk)
  (try clear hi)
  refine hK.out _ _ ⟨(blk_cell BK104.out 0).trans rfl,(blk_cell BK104.out 1).trans rfl,(blk_cell BK104.out 2).trans rfl,(blk_cell BK104.out 3).trans rfl,(blk_cell BK105.out 0).trans rfl,(blk_cell BK105.out 1).trans rfl,(blk_cell BK105.out 2).trans rfl,(blk_cell BK105.out 3).trans rfl⟩ (λhHeld=>?_)
  clear hK K
  refine norm_ (a':=?_) ?_ ?_
  rotate_left
  ·exact z5_12
  refine pure_ (i:=6) (N:=some 12) (v:=?_) (a':=?_) #[true,true,true,true,true,true,true,false] rfl rfl (any_of HT_.out z5_14) (λ_ _ _ h=>h) (Or.inl ⟨(by rfl),?_⟩) ?_ ?_
  rotate_left
  ·intro w'
   go_simp
   with_reducible rfl
  rotate_left
  ·exact z5_3
  refine pure_ (i:=7) (N:=some 5) (v:=?_) (a':=?_) #[true,true,true,true,true,true,true,true] rfl rfl (any_of HT_.out z5_14) (λ_ _ _ h=>h) (Or.inl ⟨(by rfl),?_⟩) ?_ ?_
  rotate_left
  ·intro w'
   go_simp
   with_reducible rfl
  rotate_left
  ·exact z5_3
  refine done_ (done_of HT_.out z5_14) ?_
  have hnb13:=NB104_105.out
  have hnc13:=NB105_104.out
  obtain ⟨hcz14_0,hcz14_1,hcz14_2,hcz14_3,hfz14_0,hfz14_1,hfz14_2,hfz14_3⟩:=cz4_ BK104.out;obtain ⟨hcz15_0,hcz15_1,hcz15_2,hcz15_3,hfz15_0,hfz15_1,hfz15_2,hfz15_3⟩:=cz4_ BK105.out
  try go_wp2_with (first|((with_reducible refine gate_callee (f:=101) rfl ?_);refine goesL_ (some 21) rfl rfl Try.func101 z5_14 rfl #[.agg #[.int .i64 a0_0,.int .i64 a0_1],.agg #[.int .i64 a1_0,.int .i64 a1_1]] rfl z5_5 ?_;(with_reducible refine(dots_Less.calls a0_0 a0_1 a1_0 a1_1 true _ A6.out).mono ?_);rintro e w16 ⟨rfl,hb⟩;refine ⟨_,rfl,?_⟩;replace BK104:=Aside0.mk (blk_below (g:=gb104) (o:=.cells #[.int .i64 a0_0,.int .i64 a0_1,.slice A0_2 l0_2.length c0_2,.slice A0_3 l0_3.length c0_3] 59 (0,0)) z5_2 hb);replace BK105:=Aside0.mk (blk_below (g:=gb105) (o:=.cells #[.int .i64 a1_0,.int .i64 a1_1,.slice A1_2 l1_2.length c1_2,.slice A1_3 l1_3.length c1_3] 59 (0,0)) z5_6 hb);replace HB:=Aside0.mk (below_step z5_1 hb);(try clear hb);(try clear hb2);(try clear hk);(try clear hi)))
  go_ret
  exact ⟨z3_5,z5_1⟩
 replace c7:=Bool.eq_false_iff.mpr c7
 subst c7
 have H1:((dots_Less.f a1_0 a1_1 a0_0 a0_1).bind λt109=>(if t109=true then(some 1) else(some 0)))=some r:=by rw [if_neg (show ¬ (false=true) by decide)] at H;exact H
 clear H
 have H:=H1
 clear H1
 replace H:=Option.bind_eq_some_iff.mp H
 obtain ⟨t109,A170,H⟩:=H
 replace H:(if t109=true then(some 1) else(some 0))=some r:=H
 have A17:=Aside0.mk A170
 clear A170
 by_cases c18:t109=true
 ·subst c18
  have H1:(some 1)=some r:=by rw [if_pos rfl] at H;exact H
  clear H
  have H:=H1
  clear H1
  obtain rfl:=Option.some.inj H
  go_enter Try.func99,Try.ntmps99
  try go_wp2_with (first|((with_reducible refine gate_dst (N:=2) rfl ?_);refine box_event ?hg (N:=2) ?hd (cs:=#[.int .i64 a0_0,.int .i64 a0_1,.slice A0_2 l0_2.length c0_2,.slice A0_3 l0_3.length c0_3]) (t:=59) ?hr ?_;(case hd=>rfl);(case hg=>rfl);(case hr=>exact z3_4);intro gb104 hg w19 hbox hb;have BK104:=Aside0.mk (hbox);have GW104:=Aside0.mk ((by rw [hg];exact(below_size z3_1):w.heap.size<=gb104));have GE104:=Aside0.mk ((by rw [hg];exact(below_size z3_1):w.heap.size<=gb104));replace HB:=Aside0.mk (below_step z3_1 hb);clear hb hbox hg)|((with_reducible refine gate_dst (N:=3) rfl ?_);refine box_event ?hg (N:=3) ?hd (cs:=#[.int .i64 a1_0,.int .i64 a1_1,.slice A1_2 l1_2.length c1_2,.slice A1_3 l1_3.length c1_3]) (t:=59) ?hr ?_;(case hd=>rfl);(case hg=>rfl);(case hr=>exact z3_4);intro gb105 hg w20 hbox hb;have BK105:=Aside0.mk (hbox);have GW105:=Aside0.mk ((by rw [hg];exact(below_size z5_4):w.heap.size<=gb105));have GE105:=Aside0.mk ((by rw [hg];exact(below_size z5_4):w.heap.size<=gb105));replace HB:=Aside0.mk (below_step z5_4 hb);have NB104_105:=Aside0.mk ((by rw [hg];exact Nat.ne_of_lt (blk_lt (g:=gb104) (o:=.cells #[.int .i64 a0_0,.int .i64 a0_1,.slice A0_2 l0_2.length c0_2,.slice A0_3 l0_3.length c0_3] 59 (0,0)) z5_2):gb104≠gb105));have NB105_104:=Aside0.mk ((by rw [hg];exact Nat.ne_of_gt (blk_lt (g:=gb104) (o:=.cells #[.int .i64 a0_0,.int .i64 a0_1,.slice A0_2 l0_2.length c0_2,.slice A0_3 l0_3.length c0_3] 59 (0,0)) z5_2):gb105≠gb104));replace BK104:=Aside0.mk (blk_below (g:=gb104) (o:=.cells #[.int .i64 a0_0,.int .i64 a0_1,.slice A0_2 l0_2.length c0_2,.slice A0_3 l0_3.length c0_3] 59 (0,0)) z5_2 hb);clear hb hbox hg))
  have n0_:=Aside0.mk (blk_drew BK104.out)
  have n1_:=Aside0.mk (blk_drew BK105.out)
  have n2_:=Aside0.mk (below_drew1 HB.out)
  clear BK104
  clear BK105
  clear HB
  have BK104:=n0_
  have BK105:=n1_
  have HB:=n2_
  clear n0_ n1_ n2_
  refine start_ (n:=8) (S:=λw'=>w'.cell? ⟨gb104,0,none⟩=some (.int .i64 a0_0)/\w'.cell? ⟨gb104,1,none⟩=some (.int .i64 a0_1)/\w'.cell? ⟨gb104,2,none⟩=some (.slice A0_2 l0_2.length c0_2)/\w'.cell? ⟨gb104,3,none⟩=some (.slice A0_3 l0_3.length c0_3)/\w'.cell? ⟨gb105,0,none⟩=some (.int .i64 a1_0)/\w'.cell? ⟨gb105,1,none⟩=some (.int .i64 a1_1)/\w'.cell? ⟨gb105,2,none⟩=some (.slice A1_2 l1_2.length c1_2)/\w'.cell? ⟨gb105,3,none⟩=some (.slice A1_3 l1_3.length c1_3)) (ds:=[]) #[false,false,false,false,false,false,false,false] z5_14 rfl rfl ⟨(blk_cell BK104.out 0).trans rfl,(blk_cell BK104.out 1).trans rfl,(blk_cell BK104.out 2).trans rfl,(blk_cell BK104.out 3).trans rfl,(blk_cell BK105.out 0).trans rfl,(blk_cell BK105.out 1).trans rfl,(blk_cell BK105.out 2).trans rfl,(blk_cell BK105.out 3).trans rfl⟩ (λhHeld=>?_);refine with_tabW event_Order_1.tab1 event_Order_1.bits1 (λHT_ HW_=>?_)
  generalize w20.drew=w21 at BK104 BK105 HB hHeld ⊢
  refine pure_ (i:=0) (N:=some 6) (v:=?_) (a':=?_) #[true,false,false,false,false,false,false,false] rfl rfl (any_of HT_.out z5_14) (λ_ _ _ h=>h) (Or.inl ⟨(by rfl),?_⟩) ?_ ?_
  rotate_left
  ·intro w'
   go_simp
   with_reducible rfl
  rotate_left
  ·exact z5_3
  refine pure_ (i:=3) (N:=some 9) (v:=?_) (a':=?_) #[true,false,false,true,false,false,false,false] rfl rfl (any_of HT_.out z5_14) (λ_ _ _ h=>h) (Or.inl ⟨(by rfl),?_⟩) ?_ ?_
  rotate_left
  ·intro w'
   go_simp
   with_reducible rfl
  rotate_left
  ·exact z5_3
  refine take_ (i:=1) (N:=some 7) (v:=?_) (a':=?_) #[true,true,false,true,false,false,false,false] rfl rfl (take_ofW HT_.out HW_.out z5_14) (λ_ _ _ h=>h) (Or.inl ⟨(by rfl),?_⟩) hHeld ?_ ?_
  rotate_left
  ·rintro w' ⟨s0,s1,s2,s3,s4,s5,s6,s7⟩
   go_simp
   with_reducible rfl
  rotate_left
  ·exact z5_3
  refine take_ (i:=4) (N:=some 10) (v:=?_) (a':=?_) #[true,true,false,true,true,false,false,false] rfl rfl (take_ofW HT_.out HW_.out z5_14) (λ_ _ _ h=>h) (Or.inl ⟨(by rfl),?_⟩) hHeld ?_ ?_
  rotate_left
  ·rintro w' ⟨s0,s1,s2,s3,s4,s5,s6,s7⟩
   go_simp
   with_reducible rfl
  rotate_left
  ·exact z5_3
  refine one_ (i:=2) (N:=some 8) #[true,true,true,true,true,false,false,false] rfl rfl (one_of HT_.out z5_14) (by decide) (λK hK=>?_)
  refine goes_ Try.func100 z5_14 rfl #[.slice A0_2 l0_2.length c0_2] (by rfl) rfl rfl z5_5 ?_
  with_reducible refine(clock_Sum.calls _ _ l0_2 t106 _ ?side1 ?side2 A3.out).mono ?_
  (case side1=>exact z5_8)
  (case side2=>exact HC0_2.out)
  rintro e w22 ⟨rfl,hb⟩
  refine ⟨_,rfl,?_⟩
  have n0_:=Aside0.mk (blk_below (g:=gb104) (o:=.cells #[.int .i64 a0_0,.int .i64 a0_1,.slice A0_2 l0_2.length c0_2,.slice A0_3 l0_3.length c0_3] 59 (0,0)) z5_2 hb)
  have n1_:=Aside0.mk (blk_below (g:=gb105) (o:=.cells #[.int .i64 a1_0,.int .i64 a1_1,.slice A1_2 l1_2.length c1_2,.slice A1_3 l1_3.length c1_3] 59 (0,0)) z5_6 hb)
  have n2_:=Aside0.mk (below_step z5_1 hb)
  clear BK104
  clear BK105
  clear HB
  have BK104:=n0_
  have BK105:=n1_
  have HB:=n2_
  clear n0_ n1_ n2_
  (try clear hb)
  (try clear hb2)
  (try clear hk)
  (try clear hi)
  refine hK.out _ _ ⟨(blk_cell BK104.out 0).trans rfl,(blk_cell BK104.out 1).trans rfl,(blk_cell BK104.out 2).trans rfl,(blk_cell BK104.out 3).trans rfl,(blk_cell BK105.out 0).trans rfl,(blk_cell BK105.out 1).trans rfl,(blk_cell BK105.out 2).trans rfl,(blk_cell BK105.out 3).trans rfl⟩ (λhHeld=>?_)
  clear hK K
  refine norm_ (a':=?_) ?_ ?_
  rotate_left
  ·exact z5_13
  refine one_ (i:=5) (N:=some 11) #[true,true,true,true,true,true,false,false] rfl rfl (one_of HT_.out z5_14) (by decide) (λK hK=>?_)
  refine goes_ Try.func100 z5_14 rfl #[.slice A1_2 l1_2.length c1_2] (by rfl) rfl rfl z5_5 ?_
  with_reducible refine(clock_Sum.calls _ _ l1_2 t107 _ ?side1 ?side2 A4.out).mono ?_
  (case side1=>exact z5_9)
  (case side2=>exact HC1_2.out)
  rintro e w23 ⟨rfl,hb⟩
  refine ⟨_,rfl,?_⟩
  have n0_:=Aside0.mk (blk_below (g:=gb104) (o:=.cells #[.int .i64 a0_0,.int .i64 a0_1,.slice A0_2 l0_2.length c0_2,.slice A0_3 l0_3.length c0_3] 59 (0,0)) z5_2 hb)
  have n1_:=Aside0.mk (blk_below (g:=gb105) (o:=.cells #[.int .i64 a1_0,.int .i64 a1_1,.slice A1_2 l1_2.length c1_2,.slice A1_3 l1_3.length c1_3] 59 (0,0)) z5_6 hb)
  have n2_:=Aside0.mk (below_step z5_1 hb)
  clear BK104
  clear BK105
  clear HB
  have BK104:=n0_
  have BK105:=n1_
  have HB:=n2_
  clear n0_ n1_ n2_
  (try clear hb)
  (try clear hb2)
  (try clear hk)
  (try clear hi)
  refine hK.out _ _ ⟨(blk_cell BK104.out 0).trans rfl,(blk_cell BK104.out 1).trans rfl,(blk_cell BK104.out 2).trans rfl,(blk_cell BK104.out 3).trans rfl,(blk_cell BK105.out 0).trans rfl,(blk_cell BK105.out 1).trans rfl,(blk_cell BK105.out 2).trans rfl,(blk_cell BK105.out 3).trans rfl⟩ (λhHeld=>?_)
  clear hK K
  refine norm_ (a':=?_) ?_ ?_
  rotate_left
  ·exact z5_12
  refine pure_ (i:=6) (N:=some 12) (v:=?_) (a':=?_) #[true,true,true,true,true,true,true,false] rfl rfl (any_of HT_.out z5_14) (λ_ _ _ h=>h) (Or.inl ⟨(by rfl),?_⟩) ?_ ?_
  rotate_left
  ·intro w'
   go_simp
   with_reducible rfl
  rotate_left
  ·exact z5_3
  refine pure_ (i:=7) (N:=some 5) (v:=?_) (a':=?_) #[true,true,true,true,true,true,true,true] rfl rfl (any_of HT_.out z5_14) (λ_ _ _ h=>h) (Or.inl ⟨(by rfl),?_⟩) ?_ ?_
  rotate_left
  ·intro w'
   go_simp
   with_reducible rfl
  rotate_left
  ·exact z5_3
  refine done_ (done_of HT_.out z5_14) ?_
  have hnb24:=NB104_105.out
  have hnc24:=NB105_104.out
  obtain ⟨hcz25_0,hcz25_1,hcz25_2,hcz25_3,hfz25_0,hfz25_1,hfz25_2,hfz25_3⟩:=cz4_ BK104.out;obtain ⟨hcz26_0,hcz26_1,hcz26_2,hcz26_3,hfz26_0,hfz26_1,hfz26_2,hfz26_3⟩:=cz4_ BK105.out
  try go_wp2_with (first|((with_reducible refine gate_callee (f:=101) rfl ?_);refine goesL_ (some 21) rfl rfl Try.func101 z5_14 rfl #[.agg #[.int .i64 a0_0,.int .i64 a0_1],.agg #[.int .i64 a1_0,.int .i64 a1_1]] rfl z5_5 ?_;(with_reducible refine(dots_Less.calls a0_0 a0_1 a1_0 a1_1 false _ A6.out).mono ?_);rintro e w27 ⟨rfl,hb⟩;refine ⟨_,rfl,?_⟩;replace BK104:=Aside0.mk (blk_below (g:=gb104) (o:=.cells #[.int .i64 a0_0,.int .i64 a0_1,.slice A0_2 l0_2.length c0_2,.slice A0_3 l0_3.length c0_3] 59 (0,0)) z5_2 hb);replace BK105:=Aside0.mk (blk_below (g:=gb105) (o:=.cells #[.int .i64 a1_0,.int .i64 a1_1,.slice A1_2 l1_2.length c1_2,.slice A1_3 l1_3.length c1_3] 59 (0,0)) z5_6 hb);replace HB:=Aside0.mk (below_step z5_1 hb);(try clear hb);(try clear hb2);(try clear hk);(try clear hi);obtain ⟨hcz28_0,hcz28_1,hcz28_2,hcz28_3,hfz28_0,hfz28_1,hfz28_2,hfz28_3⟩:=cz4_ BK105.out;obtain ⟨hcz29_0,hcz29_1,hcz29_2,hcz29_3,hfz29_0,hfz29_1,hfz29_2,hfz29_3⟩:=cz4_ BK104.out)|((with_reducible refine gate_callee (f:=101) rfl ?_);refine goesL_ (some 27) rfl rfl Try.func101 z5_14 rfl #[.agg #[.int .i64 a1_0,.int .i64 a1_1],.agg #[.int .i64 a0_0,.int .i64 a0_1]] rfl z5_5 ?_;(with_reducible refine(dots_Less.calls a1_0 a1_1 a0_0 a0_1 true _ A17.out).mono ?_);rintro e w30 ⟨rfl,hb⟩;refine ⟨_,rfl,?_⟩;replace BK104:=Aside0.mk (blk_below (g:=gb104) (o:=.cells #[.int .i64 a0_0,.int .i64 a0_1,.slice A0_2 l0_2.length c0_2,.slice A0_3 l0_3.length c0_3] 59 (0,0)) z5_2 hb);replace BK105:=Aside0.mk (blk_below (g:=gb105) (o:=.cells #[.int .i64 a1_0,.int .i64 a1_1,.slice A1_2 l1_2.length c1_2,.slice A1_3 l1_3.length c1_3] 59 (0,0)) z5_6 hb);replace HB:=Aside0.mk (below_step z5_1 hb);(try clear hb);(try clear hb2);(try clear hk);(try clear hi)))
  go_ret
  exact ⟨z3_5,z5_1⟩
 replace c18:=Bool.eq_false_iff.mpr c18
 subst c18
 have H1:(some 0)=some r:=by rw [if_neg (show ¬ (false=true) by decide)] at H;exact H
 clear H
 have H:=H1
 clear H1
 obtain rfl:=Option.some.inj H
 go_enter Try.func99,Try.ntmps99
 try go_wp2_with (first|((with_reducible refine gate_dst (N:=2) rfl ?_);refine box_event ?hg (N:=2) ?hd (cs:=#[.int .i64 a0_0,.int .i64 a0_1,.slice A0_2 l0_2.length c0_2,.slice A0_3 l0_3.length c0_3]) (t:=59) ?hr ?_;(case hd=>rfl);(case hg=>rfl);(case hr=>exact z3_4);intro gb104 hg w31 hbox hb;have BK104:=Aside0.mk (hbox);have GW104:=Aside0.mk ((by rw [hg];exact(below_size z3_1):w.heap.size<=gb104));have GE104:=Aside0.mk ((by rw [hg];exact(below_size z3_1):w.heap.size<=gb104));replace HB:=Aside0.mk (below_step z3_1 hb);clear hb hbox hg)|((with_reducible refine gate_dst (N:=3) rfl ?_);refine box_event ?hg (N:=3) ?hd (cs:=#[.int .i64 a1_0,.int .i64 a1_1,.slice A1_2 l1_2.length c1_2,.slice A1_3 l1_3.length c1_3]) (t:=59) ?hr ?_;(case hd=>rfl);(case hg=>rfl);(case hr=>exact z3_4);intro gb105 hg w32 hbox hb;have BK105:=Aside0.mk (hbox);have GW105:=Aside0.mk ((by rw [hg];exact(below_size z5_4):w.heap.size<=gb105));have GE105:=Aside0.mk ((by rw [hg];exact(below_size z5_4):w.heap.size<=gb105));replace HB:=Aside0.mk (below_step z5_4 hb);have NB104_105:=Aside0.mk ((by rw [hg];exact Nat.ne_of_lt (blk_lt (g:=gb104) (o:=.cells #[.int .i64 a0_0,.int .i64 a0_1,.slice A0_2 l0_2.length c0_2,.slice A0_3 l0_3.length c0_3] 59 (0,0)) z5_2):gb104≠gb105));have NB105_104:=Aside0.mk ((by rw [hg];exact Nat.ne_of_gt (blk_lt (g:=gb104) (o:=.cells #[.int .i64 a0_0,.int .i64 a0_1,.slice A0_2 l0_2.length c0_2,.slice A0_3 l0_3.length c0_3] 59 (0,0)) z5_2):gb105≠gb104));replace BK104:=Aside0.mk (blk_below (g:=gb104) (o:=.cells #[.int .i64 a0_0,.int .i64 a0_1,.slice A0_2 l0_2.length c0_2,.slice A0_3 l0_3.length c0_3] 59 (0,0)) z5_2 hb);clear hb hbox hg))
 have n0_:=Aside0.mk (blk_drew BK104.out)
 have n1_:=Aside0.mk (blk_drew BK105.out)
 have n2_:=Aside0.mk (below_drew1 HB.out)
 clear BK104
 clear BK105
 clear HB
 have BK104:=n0_
 have BK105:=n1_
 have HB:=n2_
 clear n0_ n1_ n2_
 refine start_ (n:=8) (S:=λw'=>w'.cell? ⟨gb104,0,none⟩=some (.int .i64 a0_0)/\w'.cell? ⟨gb104,1,none⟩=some (.int .i64 a0_1)/\w'.cell? ⟨gb104,2,none⟩=some (.slice A0_2 l0_2.length c0_2)/\w'.cell? ⟨gb104,3,none⟩=some (.slice A0_3 l0_3.length c0_3)/\w'.cell? ⟨gb105,0,none⟩=some (.int .i64 a1_0)/\w'.cell? ⟨gb105,1,none⟩=some (.int .i64 a1_1)/\w'.cell? ⟨gb105,2,none⟩=some (.slice A1_2 l1_2.length c1_2)/\w'.cell? ⟨gb105,3,none⟩=some (.slice A1_3 l1_3.length c1_3)) (ds:=[]) #[false,false,false,false,false,false,false,false] z5_14 rfl rfl ⟨(blk_cell BK104.out 0).trans rfl,(blk_cell BK104.out 1).trans rfl,(blk_cell BK104.out 2).trans rfl,(blk_cell BK104.out 3).trans rfl,(blk_cell BK105.out 0).trans rfl,(blk_cell BK105.out 1).trans rfl,(blk_cell BK105.out 2).trans rfl,(blk_cell BK105.out 3).trans rfl⟩ (λhHeld=>?_);refine with_tabW event_Order_1.tab1 event_Order_1.bits1 (λHT_ HW_=>?_)
 generalize w32.drew=w33 at BK104 BK105 HB hHeld ⊢
 refine pure_ (i:=0) (N:=some 6) (v:=?_) (a':=?_) #[true,false,false,false,false,false,false,false] rfl rfl (any_of HT_.out z5_14) (λ_ _ _ h=>h) (Or.inl ⟨(by rfl),?_⟩) ?_ ?_
 rotate_left
 ·intro w'
  go_simp
  with_reducible rfl
 rotate_left
 ·exact z5_3
 refine pure_ (i:=3) (N:=some 9) (v:=?_) (a':=?_) #[true,false,false,true,false,false,false,false] rfl rfl (any_of HT_.out z5_14) (λ_ _ _ h=>h) (Or.inl ⟨(by rfl),?_⟩) ?_ ?_
 rotate_left
 ·intro w'
  go_simp
  with_reducible rfl
 rotate_left
 ·exact z5_3
 refine take_ (i:=1) (N:=some 7) (v:=?_) (a':=?_) #[true,true,false,true,false,false,false,false] rfl rfl (take_ofW HT_.out HW_.out z5_14) (λ_ _ _ h=>h) (Or.inl ⟨(by rfl),?_⟩) hHeld ?_ ?_
 rotate_left
 ·rintro w' ⟨s0,s1,s2,s3,s4,s5,s6,s7⟩
  go_simp
  with_reducible rfl
 rotate_left
 ·exact z5_3
 refine take_ (i:=4) (N:=some 10) (v:=?_) (a':=?_) #[true,true,false,true,true,false,false,false] rfl rfl (take_ofW HT_.out HW_.out z5_14) (λ_ _ _ h=>h) (Or.inl ⟨(by rfl),?_⟩) hHeld ?_ ?_
 rotate_left
 ·rintro w' ⟨s0,s1,s2,s3,s4,s5,s6,s7⟩
  go_simp
  with_reducible rfl
 rotate_left
 ·exact z5_3
 refine one_ (i:=2) (N:=some 8) #[true,true,true,true,true,false,false,false] rfl rfl (one_of HT_.out z5_14) (by decide) (λK hK=>?_)
 refine goes_ Try.func100 z5_14 rfl #[.slice A0_2 l0_2.length c0_2] (by rfl) rfl rfl z5_5 ?_
 with_reducible refine(clock_Sum.calls _ _ l0_2 t106 _ ?side1 ?side2 A3.out).mono ?_
 (case side1=>exact z5_8)
 (case side2=>exact HC0_2.out)
 rintro e w34 ⟨rfl,hb⟩
 refine ⟨_,rfl,?_⟩
 have n0_:=Aside0.mk (blk_below (g:=gb104) (o:=.cells #[.int .i64 a0_0,.int .i64 a0_1,.slice A0_2 l0_2.length c0_2,.slice A0_3 l0_3.length c0_3] 59 (0,0)) z5_2 hb)
 have n1_:=Aside0.mk (blk_below (g:=gb105) (o:=.cells #[.int .i64 a1_0,.int .i64 a1_1,.slice A1_2 l1_2.length c1_2,.slice A1_3 l1_3.length c1_3] 59 (0,0)) z5_6 hb)
 have n2_:=Aside0.mk (below_step z5_1 hb)
 clear BK104
 clear BK105
 clear HB
 have BK104:=n0_
 have BK105:=n1_
 have HB:=n2_
 clear n0_ n1_ n2_
 (try clear hb)
 (try clear hb2)
 (try clear hk)
 (try clear hi)
 refine hK.out _ _ ⟨(blk_cell BK104.out 0).trans rfl,(blk_cell BK104.out 1).trans rfl,(blk_cell BK104.out 2).trans rfl,(blk_cell BK104.out 3).trans rfl,(blk_cell BK105.out 0).trans rfl,(blk_cell BK105.out 1).trans rfl,(blk_cell BK105.out 2).trans rfl,(blk_cell BK105.out 3).trans rfl⟩ (λhHeld=>?_)
 clear hK K
 refine norm_ (a':=?_) ?_ ?_
 rotate_left
 ·exact z5_13
 refine one_ (i:=5) (N:=some 11) #[true,true,true,true,true,true,false,false] rfl rfl (one_of HT_.out z5_14) (by decide) (λK hK=>?_)
 refine goes_ Try.func100 z5_14 rfl #[.slice A1_2 l1_2.length c1_2] (by rfl) rfl rfl z5_5 ?_
 with_reducible refine(clock_Sum.calls _ _ l1_2 t107 _ ?side1 ?side2 A4.out).mono ?_
 (case side1=>exact z5_9)
 (case side2=>exact HC1_2.out)
 rintro e w35 ⟨rfl,hb⟩
 refine ⟨_,rfl,?_⟩
 have n0_:=Aside0.mk (blk_below (g:=gb104) (o:=.cells #[.int .i64 a0_0,.int .i64 a0_1,.slice A0_2 l0_2.length c0_2,.slice A0_3 l0_3.length c0_3] 59 (0,0)) z5_2 hb)
 have n1_:=Aside0.mk (blk_below (g:=gb105) (o:=.cells #[.int .i64 a1_0,.int .i64 a1_1,.slice A1_2 l1_2.length c1_2,.slice A1_3 l1_3.length c1_3] 59 (0,0)) z5_6 hb)
 have n2_:=Aside0.mk (below_step z5_1 hb)
 clear BK104
 clear BK105
 clear HB
 have BK104:=n0_
 have BK105:=n1_
 have HB:=n2_
 clear n0_ n1_ n2_
 (try clear hb)
 (try clear hb2)
 (try clear hk)
 (try clear hi)
 refine hK.out _ _ ⟨(blk_cell BK104.out 0).trans rfl,(blk_cell BK104.out 1).trans rfl,(blk_cell BK104.out 2).trans rfl,(blk_cell BK104.out 3).trans rfl,(blk_cell BK105.out 0).trans rfl,(blk_cell BK105.out 1).trans rfl,(blk_cell BK105.out 2).trans rfl,(blk_cell BK105.out 3).trans rfl⟩ (λhHeld=>?_)
 clear hK K
 refine norm_ (a':=?_) ?_ ?_
 rotate_left
 ·exact z5_12
 refine pure_ (i:=6) (N:=some 12) (v:=?_) (a':=?_) #[true,true,true,true,true,true,true,false] rfl rfl (any_of HT_.out z5_14) (λ_ _ _ h=>h) (Or.inl ⟨(by rfl),?_⟩) ?_ ?_
 rotate_left
 ·intro w'
  go_simp
  with_reducible rfl
 rotate_left
 ·exact z5_3
 refine pure_ (i:=7) (N:=some 5) (v:=?_) (a':=?_) #[true,true,true,true,true,true,true,true] rfl rfl (any_of HT_.out z5_14) (λ_ _ _ h=>h) (Or.inl ⟨(by rfl),?_⟩) ?_ ?_
 rotate_left
 ·intro w'
  go_simp
  with_reducible rfl
 rotate_left
 ·exact z5_3
 refine done_ (done_of HT_.out z5_14) ?_
 have hnb36:=NB104_105.out
 have hnc36:=NB105_104.out
 obtain ⟨hcz37_0,hcz37_1,hcz37_2,hcz37_3,hfz37_0,hfz37_1,hfz37_2,hfz37_3⟩:=cz4_ BK104.out;obtain ⟨hcz38_0,hcz38_1,hcz38_2,hcz38_3,hfz38_0,hfz38_1,hfz38_2,hfz38_3⟩:=cz4_ BK105.out
 try go_wp2_with (first|((with_reducible refine gate_callee (f:=101) rfl ?_);refine goesL_ (some 21) rfl rfl Try.func101 z5_14 rfl #[.agg #[.int .i64 a0_0,.int .i64 a0_1],.agg #[.int .i64 a1_0,.int .i64 a1_1]] rfl z5_5 ?_;(with_reducible refine(dots_Less.calls a0_0 a0_1 a1_0 a1_1 false _ A6.out).mono ?_);rintro e w39 ⟨rfl,hb⟩;refine ⟨_,rfl,?_⟩;replace BK104:=Aside0.mk (blk_below (g:=gb104) (o:=.cells #[.int .i64 a0_0,.int .i64 a0_1,.slice A0_2 l0_2.length c0_2,.slice A0_3 l0_3.length c0_3] 59 (0,0)) z5_2 hb);replace BK105:=Aside0.mk (blk_below (g:=gb105) (o:=.cells #[.int .i64 a1_0,.int .i64 a1_1,.slice A1_2 l1_2.length c1_2,.slice A1_3 l1_3.length c1_3] 59 (0,0)) z5_6 hb);replace HB:=Aside0.mk (below_step z5_1 hb);(try clear hb);(try clear hb2);(try clear hk);(try clear hi);obtain ⟨hcz40_0,hcz40_1,hcz40_2,hcz40_3,hfz40_0,hfz40_1,hfz40_2,hfz40_3⟩:=cz4_ BK105.out;obtain ⟨hcz41_0,hcz41_1,hcz41_2,hcz41_3,hfz41_0,hfz41_1,hfz41_2,hfz41_3⟩:=cz4_ BK104.out)|((with_reducible refine gate_callee (f:=101) rfl ?_);refine goesL_ (some 27) rfl rfl Try.func101 z5_14 rfl #[.agg #[.int .i64 a1_0,.int .i64 a1_1],.agg #[.int .i64 a0_0,.int .i64 a0_1]] rfl z5_5 ?_;(with_reducible refine(dots_Less.calls a1_0 a1_1 a0_0 a0_1 false _ A17.out).mono ?_);rintro e w42 ⟨rfl,hb⟩;refine ⟨_,rfl,?_⟩;replace BK104:=Aside0.mk (blk_below (g:=gb104) (o:=.cells #[.int .i64 a0_0,.int .i64 a0_1,.slice A0_2 l0_2.length c0_2,.slice A0_3 l0_3.length c0_3] 59 (0,0)) z5_2 hb);replace BK105:=Aside0.mk (blk_below (g:=gb105) (o:=.cells #[.int .i64 a1_0,.int .i64 a1_1,.slice A1_2 l1_2.length c1_2,.slice A1_3 l1_3.length c1_3] 59 (0,0)) z5_6 hb);replace HB:=Aside0.mk (below_step z5_1 hb);(try clear hb);(try clear hb2);(try clear hk);(try clear hi)))
 go_ret
 exact ⟨z3_5,z5_1⟩
def api_Clock_int_76.f (l0:List Int):Option (List Int):=(some (([]:List Int):List Int)).bind λy110=>(if y110.length+l0.length<17592186044416 then(some (y110++l0)) else(none))
theorem api_Clock_int_76.calls_some (A0_:Addr) (c0:Nat) (l0:List Int) (r:List Int) (w:World) (hr0:Kd.C (Kd.int .i64) w (some A0_) l0.length l0) (hc0:l0.length<=c0) (h:api_Clock_int_76.f l0=some r) :
  Calls Try.prog 76 #[.slice (some A0_) l0.length c0] w λe w'=>∃ v0_:Value,e = .returned (v0_)/\Kd.R (Kd.int .i64) 3 w' w.heap.size (λ_=>True) v0_ r/\Below w.heap.size w w':=by
 have HR0:=Aside0.mk hr0
 have HC0:=Aside0.mk hc0
 clear hr0 hc0
 have HB:=Aside0.mk (Below.refl w.heap.size w)
 have H:((some (([]:List Int):List Int)).bind λy110=>(if y110.length+l0.length<17592186044416 then(some (y110++l0)) else(none)))=some r:=h
 clear h
 obtain ⟨y110,hy110⟩:∃ y_:List Int,y_=(([]:List Int)):=⟨_,rfl⟩
 replace H:(if y110.length+l0.length<17592186044416 then(some (y110++l0)) else(none))=some r:=by first|(rw [hy110];with_reducible exact H)|(have H2_:=(Option.bind_some _ _).symm.trans H;rw [hy110];with_reducible exact H2_)|(have H2_:=(Option.bind_some _ _).symm.trans H;with_reducible exact H2_)|with_reducible exact H|(rw [hy110];exact H)|exact H
 have Ny110:=Aside0.mk hy110
 clear hy110
 by_cases c2:y110.length+l0.length<17592186044416
 rotate_left
 ·rw [if_neg c2] at H
  exact absurd H (by simp)
 rw [if_pos c2] at H
 have LMc2:=Aside0.mk c2
 clear c2
 obtain ⟨y113,hy113⟩:∃ y_:List Int,y_=(y110++l0):=⟨_,rfl⟩
 replace H:(some y113)=some r:=by first|(rw [hy113];with_reducible exact H)|(have H2_:=(Option.bind_some _ _).symm.trans H;rw [hy113];with_reducible exact H2_)|(have H2_:=(Option.bind_some _ _).symm.trans H;with_reducible exact H2_)|with_reducible exact H|(rw [hy113];exact H)|exact H
 have Ny113:=Aside0.mk hy113
 clear hy113
 obtain rfl:=Option.some.inj H
 have hnil_:=λW:World=>Lib.run_eql_slice_nil (P:=Try.prog) W 56 3 (some A0_) l0.length c0 0 0 z5_14
 go_enter Try.func76,Try.ntmps76
 go_wp2_with (first|((with_reducible refine gate_dst (N:=5) rfl ?_);refine Kd.R_lit (Kd.int .i64) _ 3 ?hg (N:=5) ?hd (xs:=([]:List Int)) (inner:=[]) (ok:=λ_=>True) (okp:=λ_=>True) ?hr ?hp (λ_ hk=>hk) trivial (Below.refl _ _) (Nat.le_refl _) (by simp) ?_;(case hd=>rfl);(case hg=>rfl);(case hr=>exact z3_4);(case hp=>exact(Reps.none _ _));intro v111 w3 ho4 hb hg_ hnew_;clear hg_ hnew_;(first|rw [<-Ny110.out] at ho4|(simp only [Int.reduceToNat] at ho4;rw [<-Ny110.out] at ho4));have HO112:=Aside0.mk (Kd.R_lower ho4 (below_size z3_1));replace HB:=Aside0.mk (below_step z3_1 hb);clear hb ho4)|((with_reducible refine gate_builtin (b:=.append) (xs:=#[.tmp 5,.tmp 6]) rfl ?_);at_builtin;refine Kd.R_append_rows (Kd.int .i64) (w0:=w) w.heap.size rfl (.tmp 5) (.tmp 6) 56 3 (.int .i64 0) 8 rfl Try.underlying56 info3 rfl (by decide) (by omega) v111 y110 l0 _ _ _ (λ_=>True) (λ_=>False) rfl rfl ?aO ?aR (λ_ _ h=>h) (λ_ h=>h.elim) ?aF ?aB ?aS ?aL ?_;(case aR=>repeat(first|exact(Kd.C_below HR0.out HB.out)|(with_reducible refine Kd.C_alloc ?_ _)|(with_reducible refine Kd.C_drewN ?_ _)|(with_reducible refine Kd.C_drew ?_)));(case aB=>exact z3_1);(case aF=>exact(λ_ _=>trivial));(case aO=>exact(by(with_reducible repeat(first|apply Kd.R_alloc|apply Kd.R_drewN|apply Kd.R_drew));exact HO112.out));(case aS=>exact(below_size z3_1));(case aL=>have:=LMc2.out;omega);intro v114 w5 ho hb hg hat;rw [<-Ny113.out] at ho;replace HB:=Aside0.mk (hb);have HO115:=Aside0.mk (ho);clear HO112;clear ho hb hg hat))
 go_ret
 exact ⟨_,z3_5,(by(with_reducible repeat(first|apply Kd.R_alloc|apply Kd.R_drewN|apply Kd.R_drew));exact HO115.out),z3_1⟩
theorem api_Clock_int_76.calls (A0:Option Addr) (c0:Nat) (l0:List Int) (r:List Int) (w:World) (hr0:Kd.C (Kd.int .i64) w A0 l0.length l0) (hc0:l0.length<=c0) (h:api_Clock_int_76.f l0=some r) :
  Calls Try.prog 76 #[.slice A0 l0.length c0] w λe w'=>∃ v0_:Value,e = .returned (v0_)/\Kd.R (Kd.int .i64) 3 w' w.heap.size (λ_=>True) v0_ r/\Below w.heap.size w w':=by
 cases A0 with
 | some A0_=>exact api_Clock_int_76.calls_some _ c0 l0 r w hr0 hc0 h
 | none =>
 have hl:l0=[]:=by
  rcases Nat.eq_zero_or_pos l0.length with h0|h0
  ·exact List.length_eq_zero_iff.1 h0
  ·obtain ⟨ad,e,_⟩:=hr0.2.2 h0
   cases e
 subst hl
 obtain rfl:r=[]:=by
  simp [api_Clock_int_76.f] at h
  first|exact h|exact h.symm
 have hnil_:=λW:World=>Lib.run_eql_slice_nil (P:=Try.prog) W 56 3 none 0 c0 0 0 z5_14
 clear h
 go_enter Try.func76,Try.ntmps76
 go_wp2
 go_ret
 exact ⟨_,rfl,(by first|exact Kd.R_nil _ _ _ _ _|exact Kd.N_nil _ _ _ _ _|exact Kd.V_nil _ _ _ _ _),Below.refl _ _⟩
def clock_Plain.f (l0:List Int):Option (List Int):=some (ClockBase.trim (ClockBase.ofL l0))
theorem clock_Plain.calls (A0:Option Addr) (c0:Nat) (l0:List Int) (r:List Int) (w:World) (hr0:Kd.C (Kd.int .i64) w A0 l0.length l0) (hc0:l0.length<=c0) (h:clock_Plain.f l0=some r) :
  Calls Try.prog 53 #[.slice A0 l0.length c0] w λe w'=>∃ v0_:Value,e = .returned (v0_)/\Kd.R (Kd.int .i64) 3 w' w.heap.size (λ_=>True) v0_ r/\Below w.heap.size w w':=by
 obtain rfl:=Option.some.inj h
 exact ClockBase.Plain_calls A0 c0 l0 w hr0
def dots_May.f (a0_0:Int) (a0_1:Int):Option (Bool):=if a0_0>=1 then(if a0_0<=5 then(if a0_1>=1 then(some (decide (a0_1<=1048576))) else(some false)) else(some false)) else(some false)
theorem dots_May.calls (a0_0:Int) (a0_1:Int) (r:Bool) (w:World) (h:dots_May.f a0_0 a0_1=some r) :
  Calls Try.prog 88 #[.agg #[.int .i64 a0_0,.int .i64 a0_1]] w λe w'=>e = .returned (.bool r)/\Below w.heap.size w w':=by
 have hu54:=Try.underlying54
 have HB:=Aside0.mk (Below.refl w.heap.size w)
 have H:(if a0_0>=1 then(if a0_0<=5 then(if a0_1>=1 then(some (decide (a0_1<=1048576))) else(some false)) else(some false)) else(some false))=some r:=h
 clear h
 by_cases c2:a0_0>=1
 rotate_left
 ·rw [if_neg c2] at H
  have c2b0:decide (1<=a0_0)=false:=decide_eq_false c2
  clear c2
  obtain rfl:=Option.some.inj H
  go_enter Try.func88,Try.ntmps88
  go_wp2_with (first|((with_reducible refine gate_dst (N:=1) rfl ?_);refine box_event ?hg (N:=1) ?hd (cs:=#[.int .i64 a0_0,.int .i64 a0_1]) (t:=54) ?hr ?_;(case hd=>rfl);(case hg=>rfl);(case hr=>exact z3_4);intro gb116 hg w11 hbox hb;have BK116:=Aside0.mk (hbox);have GW116:=Aside0.mk ((by rw [hg];exact(below_size z3_1):w.heap.size<=gb116));have GE116:=Aside0.mk ((by rw [hg];exact(below_size z3_1):w.heap.size<=gb116));replace HB:=Aside0.mk (below_step z3_1 hb);clear hb hbox hg;obtain ⟨hcz12_0,hcz12_1,hfz12_0,hfz12_1⟩:=cz2_ BK116.out))
  go_ret
  exact ⟨z3_5,z5_10⟩
 rw [if_pos c2] at H
 have c2b0:decide (1<=a0_0)=true:=decide_eq_true c2
 clear c2
 by_cases c3:a0_0<=5
 rotate_left
 ·rw [if_neg c3] at H
  have c3b0:decide (a0_0<=5)=false:=decide_eq_false c3
  clear c3
  obtain rfl:=Option.some.inj H
  go_enter Try.func88,Try.ntmps88
  go_wp2_with (first|((with_reducible refine gate_dst (N:=1) rfl ?_);refine box_event ?hg (N:=1) ?hd (cs:=#[.int .i64 a0_0,.int .i64 a0_1]) (t:=54) ?hr ?_;(case hd=>rfl);(case hg=>rfl);(case hr=>exact z3_4);intro gb116 hg w9 hbox hb;have BK116:=Aside0.mk (hbox);have GW116:=Aside0.mk ((by rw [hg];exact(below_size z3_1):w.heap.size<=gb116));have GE116:=Aside0.mk ((by rw [hg];exact(below_size z3_1):w.heap.size<=gb116));replace HB:=Aside0.mk (below_step z3_1 hb);clear hb hbox hg;obtain ⟨hcz10_0,hcz10_1,hfz10_0,hfz10_1⟩:=cz2_ BK116.out))
  go_ret
  exact ⟨z3_5,z5_10⟩
 rw [if_pos c3] at H
 have c3b0:decide (a0_0<=5)=true:=decide_eq_true c3
 clear c3
 by_cases c4:a0_1>=1
 ·rw [if_pos c4] at H
  have c4b0:decide (1<=a0_1)=true:=decide_eq_true c4
  clear c4
  obtain rfl:=Option.some.inj H
  go_enter Try.func88,Try.ntmps88
  go_wp2_with (first|((with_reducible refine gate_dst (N:=1) rfl ?_);refine box_event ?hg (N:=1) ?hd (cs:=#[.int .i64 a0_0,.int .i64 a0_1]) (t:=54) ?hr ?_;(case hd=>rfl);(case hg=>rfl);(case hr=>exact z3_4);intro gb116 hg w5 hbox hb;have BK116:=Aside0.mk (hbox);have GW116:=Aside0.mk ((by rw [hg];exact(below_size z3_1):w.heap.size<=gb116));have GE116:=Aside0.mk ((by rw [hg];exact(below_size z3_1):w.heap.size<=gb116));replace HB:=Aside0.mk (below_step z3_1 hb);clear hb hbox hg;obtain ⟨hcz6_0,hcz6_1,hfz6_0,hfz6_1⟩:=cz2_ BK116.out))
  go_ret
  exact ⟨z3_5,z5_10⟩
 rw [if_neg c4] at H
 have c4b0:decide (1<=a0_1)=false:=decide_eq_false c4
 clear c4
 obtain rfl:=Option.some.inj H
 go_enter Try.func88,Try.ntmps88
 go_wp2_with (first|((with_reducible refine gate_dst (N:=1) rfl ?_);refine box_event ?hg (N:=1) ?hd (cs:=#[.int .i64 a0_0,.int .i64 a0_1]) (t:=54) ?hr ?_;(case hd=>rfl);(case hg=>rfl);(case hr=>exact z3_4);intro gb116 hg w7 hbox hb;have BK116:=Aside0.mk (hbox);have GW116:=Aside0.mk ((by rw [hg];exact(below_size z3_1):w.heap.size<=gb116));have GE116:=Aside0.mk ((by rw [hg];exact(below_size z3_1):w.heap.size<=gb116));replace HB:=Aside0.mk (below_step z3_1 hb);clear hb hbox hg;obtain ⟨hcz8_0,hcz8_1,hfz8_0,hfz8_1⟩:=cz2_ BK116.out))
 go_ret
 exact ⟨z3_5,z5_10⟩
def clock_Get.f (l0:List Int) (a1:Int):Option (Int):=some (ClockBase.getS l0 a1)
theorem clock_Get.calls (A0:Option Addr) (c0:Nat) (l0:List Int) (a1:Int) (r:Int) (w:World) (hr0:Kd.C (Kd.int .i64) w A0 l0.length l0) (hc0:l0.length<=c0) (h:clock_Get.f l0 a1=some r) :
  Calls Try.prog 89 #[.slice A0 l0.length c0,.int .i64 a1] w λe w'=>e = .returned (.int .i64 r)/\Below w.heap.size w w':=by
 obtain rfl:=Option.some.inj h
 exact ClockBase.Get_calls A0 c0 l0 a1 w hr0
end Go.Proofs.Ytfhamdobagjakaa.PCa
