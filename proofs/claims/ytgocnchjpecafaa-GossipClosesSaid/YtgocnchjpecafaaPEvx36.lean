import Derived.Test.YtgocnchjpecafaaPEvx11
import Derived.Test.YtgocnchjpecafaaPEvx33
import Derived.Test.YtgocnchjpecafaaPEvx35
/- a part -/
namespace Go.Proofs.Ytgocnchjpecafaa.PEv
open Go.RowKit Go.Proofs.YtgocnchjpecafaaW.PrintWords Go.Proofs.YtgocnchjpecafaaW.PrintLast Go.Proofs.YtgocnchjpecafaaW.PrintMore
attribute [local go_sem] max2_int min2_int max_two min_two max_three min_three max_four min_four
set_option linter.unusedVariables false
set_option linter.unusedSimpArgs false
set_option maxHeartbeats 8000000
set_option maxRecDepth 100000
theorem z36_5 {P:Prop} (h:P:=by repeat(first|exact(Kd.C_below HR761_2.out HB.out)|(with_reducible refine Kd.C_alloc ?_ _)|(with_reducible refine Kd.C_drewN ?_ _)|(with_reducible refine Kd.C_drew ?_))):P:=h
theorem z36_6 {P:Prop} (h:P:=by repeat(first|exact(Kd.C_below HR761_3.out HB.out)|(with_reducible refine Kd.C_alloc ?_ _)|(with_reducible refine Kd.C_drewN ?_ _)|(with_reducible refine Kd.C_drew ?_))):P:=h
theorem z36_9 {P:Prop} (h:P:=by repeat(first|exact(Kd.C_below HR771_2.out HB.out)|(with_reducible refine Kd.C_alloc ?_ _)|(with_reducible refine Kd.C_drewN ?_ _)|(with_reducible refine Kd.C_drew ?_))):P:=h
theorem z36_10 {P:Prop} (h:P:=by repeat(first|exact(Kd.C_below HR766.out HB.out)|(with_reducible refine Kd.C_alloc ?_ _)|(with_reducible refine Kd.C_drewN ?_ _)|(with_reducible refine Kd.C_drew ?_))):P:=h
theorem z36_12 {P:Prop} (h:P:=by show Act.put _ (some 28) _=_;simp only [Act.put,List.setIfInBounds_toArray,List.set_cons_zero,List.set_cons_succ,i64_w,i32_w];rfl):P:=h
theorem z36_13 {P:Prop} (h:P:=by repeat(first|exact(Kd.C_below HR769_2.out HB.out)|(with_reducible refine Kd.C_alloc ?_ _)|(with_reducible refine Kd.C_drewN ?_ _)|(with_reducible refine Kd.C_drew ?_))):P:=h
theorem z36_14 {P:Prop} (h:P:=by repeat(first|exact(Kd.C_below HR0.out z9_4)|(with_reducible refine Kd.C_alloc ?_ _)|(with_reducible refine Kd.C_drewN ?_ _)|(with_reducible refine Kd.C_drew ?_))):P:=h
theorem z36_15 {P:Prop} (h:P:=by show Act.put _ (some 36) _=_;simp only [Act.put,List.setIfInBounds_toArray,List.set_cons_zero,List.set_cons_succ,i64_w,i32_w];rfl):P:=h
mutual
def r05_Closed.l0:Nat->List (S30)->Int->Option (Bool)
 | 0,_,_=>none
 | k+1,x0,x3=>if x3<(x0.length:Int) then(if 0<=x3 then((r05_May.f k ((rd_T30 x0 x3).f0.f0) ((rd_T30 x0 x3).f0.f1) ((rd_T30 x0 x3).f1) ((rd_T30 x0 x3).f2)).bind λt762=>(if t762=true then(if x3<=(x0.length:Int) then((r05_find.f k (x0.take (x3:Int).toNat) ((rd_T30 x0 x3).f0.f0) ((rd_T30 x0 x3).f0.f1)).bind λt768=>(if t768=true then(some false) else((r03_Sum.f k ((rd_T30 x0 x3).f1)).bind λt770=>(if t770>=(x0.length:Int) then(some false) else(r05_Closed.l0 k x0 (wrap64 (x3+1))))))) else(none)) else(some false))) else(none)) else(r05_Closed.l1 k x0 0)
def r05_Closed.l1:Nat->List (S30)->Int->Option (Bool)
 | 0,_,_=>none
 | k+1,x0,x4=>if x4<(x0.length:Int) then(r05_Closed.l2 k x0 x4 1) else(some true)
def r05_Closed.l2:Nat->List (S30)->Int->Int->Option (Bool)
 | 0,_,_,_=>none
 | k+1,x0,x4,x5=>if x5<=5 then(r05_Closed.l3 k x0 x4 x5 1) else(r05_Closed.l1 k x0 (wrap64 (x4+1)))
def r05_Closed.l3:Nat->List (S30)->Int->Int->Int->Option (Bool)
 | 0,_,_,_,_=>none
 | k+1,x0,x4,x5,x6=>if 0<=x4 then(if x4<(x0.length:Int) then((r03_Get.f k ((rd_T30 x0 x4).f1) x5).bind λt772=>(if x6<=t772 then((r05_find.f k x0 x5 x6).bind λt773=>(if t773=true then(r05_Closed.l3 k x0 x4 x5 (wrap64 (x6+1))) else(some false))) else(r05_Closed.l2 k x0 x4 (wrap64 (x5+1))))) else(none)) else(none)
end
def r05_Closed.f (k:Nat) (l0:List (S30)):Option (Bool):=r05_Closed.l0 k l0 0
def r05_Closed.T4:Bool×List (List Nat×List Nat):=(true,[([],[]),([],[]),([0,1],[0,1]),([2],[2]),([3],[3]),([4],[4]),([5,4],[5]),([6],[6]),([6],[6]),([7,8,6],[6,7,8]),([6],[6]),([6],[6]),([10,11,6],[6,10,11]),([12,6],[6,12]),([13,6],[6,13]),([9,14,6,6],[6,9,14]),([6,15],[6,15]),([16,15],[16]),([17],[17]),([17],[17]),([18,19,17],[17,18,19]),([20,17],[17,20]),([21,17],[17,21]),([22,17,17],[17,22]),([17],[17]),([24,17],[17,24]),([23,25,17],[17,23,25]),([17,26],[17,26])])
def r05_Closed.B4:List Nat:=[0,0,3,7,15,31,63,127,127,511,127,127,3199,7295,15487,32767,65535,131071,262143,262143,1048575,2097151,4194303,8388607,262143,17039359,67108863,134217727]
theorem r05_Closed.tab4:rtab .any (opsOf Try.f37 4)=r05_Closed.T4:=by kernel_rfl
theorem r05_Closed.bits4:waitsOk r05_Closed.T4.2 r05_Closed.B4=true:=by kernel_rfl
theorem r05_Closed.calls (k:Nat) (A0:Option Addr) (c0:Nat) (l0:List (S30)) (r:Bool) (w:World) (hr0:Kd.C k30 w A0 l0.length l0) (hc0:l0.length<=c0) (h:r05_Closed.f k l0=some r) :
  Calls Try.prog 37 #[.slice A0 l0.length c0] w λe w'=>e = .returned (.bool r)/\Below w.heap.size w w':=by
 have hu30:=Try.underlying30
 have hu25:=Try.underlying25
 have HR0:=Aside0.mk hr0
 have HC0:=Aside0.mk hc0
 clear hr0 hc0
 have HB:=U (Below.refl w.heap.size w)
 have H:(r05_Closed.l0 k l0 0)=some r:=h
 clear h
 have H':=Aside0.mk H
 clear H
 go_enter Try.func37,Try.ntmps37
 go_wp2
 go_loopg [3] k (λkq v3 w'=>∃ (x3_1:Int),v3 = .int .i64 x3_1/\Aside0 (r05_Closed.l0 kq l0 x3_1=some r)/\Aside0 (kq<=k)/\Aside0 (Below w.heap.size w w'))
 case atStart=>exact ⟨(0),z9_3,H',⟨Nat.le_refl _⟩,⟨z9_4⟩⟩
 case round =>
 clear H'
 obtain ⟨x3_1,rfl,HA,HK1,HB⟩:=hrel
 cases gk with
 | zero=>exact absurd HA.out (by simp [r05_Closed.l0])
 | succ k1 =>
 have H:=HA.out
 clear HA
 simp only [r05_Closed.l0] at H
 by_cases c2:x3_1<(l0.length:Int)
 rotate_left
 ·rw [if_neg c2] at H
  have c2b0:decide (x3_1<(l0.length:Int))=false:=dF_ c2
  clear c2
  have H':=Aside0.mk H
  clear H
  go_wp2
  go_loopg [4] k1 (λkq v4 w'=>∃ (x4_2:Int),v4 = .int .i64 x4_2/\Aside0 (r05_Closed.l1 kq l0 x4_2=some r)/\Aside0 (kq<=k1)/\Aside0 (Below w.heap.size w w'))
  case atStart=>exact ⟨(0),z9_3,H',⟨Nat.le_refl _⟩,⟨z9_4⟩⟩
  case round =>
  clear H'
  try clear c1
  try clear c2
  try clear c2b0
  try clear p2
  try clear q2
  try clear c3
  try clear c5
  try clear p6
  try clear c7
  try clear p7
  try clear q7
  try clear hx7
  try clear c8
  try clear c15
  try clear c15b0
  try clear c17
  try clear q22
  try clear hx761_0
  try clear hx761_1
  try clear hx761_2
  try clear hx761_3
  try clear hx767_0
  try clear hx767_1
  try clear hx767_2
  try clear hx767_3
  try clear hx769_0
  try clear hx769_1
  try clear hx769_2
  try clear hx769_3
  try clear p761
  try clear p767
  try clear p769
  try clear q22
  try clear q761
  try clear q767
  try clear q769
  obtain ⟨x4_2,rfl,HA,HK2,HB⟩:=hrel
  cases gk with
  | zero=>exact absurd HA.out (by simp [r05_Closed.l1])
  | succ k2 =>
  have H:=HA.out
  clear HA
  simp only [r05_Closed.l1] at H
  by_cases c26:x4_2<(l0.length:Int)
  rotate_left
  ·rw [if_neg c26] at H
   have c26b0:decide (x4_2<(l0.length:Int))=false:=dF_ c26
   clear c26
   obtain rfl:=sI_ H
   go_wp2
   go_ret
   exact ⟨z9_2,z9_4⟩
  rw [if_pos c26] at H
  have c26b0:decide (x4_2<(l0.length:Int))=true:=dT_ c26
  clear c26
  have H':=Aside0.mk H
  clear H
  go_wp2
  go_loopg [5] k2 (λkq v5 w'=>∃ (x5_3:Int),v5 = .int .i64 x5_3/\Aside0 (r05_Closed.l2 kq l0 x4_2 x5_3=some r)/\Aside0 (kq<=k2)/\Aside0 (Below w.heap.size w w'))
  case atStart=>exact ⟨(1),z9_3,H',⟨Nat.le_refl _⟩,⟨z9_4⟩⟩
  case round =>
  clear H'
  try clear c1
  try clear c2
  try clear c2b0
  try clear p2
  try clear q2
  try clear c3
  try clear c5
  try clear p6
  try clear c7
  try clear p7
  try clear q7
  try clear hx7
  try clear c8
  try clear c15
  try clear c15b0
  try clear c17
  try clear q22
  try clear c26
  try clear c26b0
  try clear hx761_0
  try clear hx761_1
  try clear hx761_2
  try clear hx761_3
  try clear hx767_0
  try clear hx767_1
  try clear hx767_2
  try clear hx767_3
  try clear hx769_0
  try clear hx769_1
  try clear hx769_2
  try clear hx769_3
  try clear p2
  try clear p6
  try clear p7
  try clear p761
  try clear p767
  try clear p769
  try clear q2
  try clear q22
  try clear q7
  try clear q761
  try clear q767
  try clear q769
  obtain ⟨x5_3,rfl,HA,HK3,HB⟩:=hrel
  cases gk with
  | zero=>exact absurd HA.out (by simp [r05_Closed.l2])
  | succ k3 =>
  have H:=HA.out
  clear HA
  simp only [r05_Closed.l2] at H
  by_cases c27:x5_3<=5
  rotate_left
  ·rw [if_neg c27] at H
   have c27b0:decide (x5_3<=5)=false:=dF_ c27
   clear c27
   have H':=Aside0.mk H
   clear H
   go_wp2
   go_roundg k3
   case measure=>have:=HK1.out;have:=HK2.out;have:=HK3.out;omega
   case rel=>exact ⟨(wrap64 (x4_2+1)),z9_3,H',⟨(by have:=HK1.out;have:=HK2.out;have:=HK3.out;omega)⟩,⟨z9_4⟩⟩
  rw [if_pos c27] at H
  have c27b0:decide (x5_3<=5)=true:=dT_ c27
  clear c27
  have H':=Aside0.mk H
  clear H
  go_wp2
  go_loopg [6] k3 (λkq v6 w'=>∃ (x6_4:Int),v6 = .int .i64 x6_4/\Aside0 (r05_Closed.l3 kq l0 x4_2 x5_3 x6_4=some r)/\Aside0 (kq<=k3)/\Aside0 (Below w.heap.size w w'))
  case atStart=>exact ⟨(1),z9_3,H',⟨Nat.le_refl _⟩,⟨z9_4⟩⟩
  case round =>
  clear H'
  try clear c1
  try clear c2
  try clear c2b0
  try clear p2
  try clear q2
  try clear c3
  try clear c5
  try clear p6
  try clear c7
  try clear p7
  try clear q7
  try clear hx7
  try clear c8
  try clear c15
  try clear c15b0
  try clear c17
  try clear q22
  try clear c26
  try clear c26b0
  try clear c27
  try clear c27b0
  try clear hx761_0
  try clear hx761_1
  try clear hx761_2
  try clear hx761_3
  try clear hx767_0
  try clear hx767_1
  try clear hx767_2
  try clear hx767_3
  try clear hx769_0
  try clear hx769_1
  try clear hx769_2
  try clear hx769_3
  try clear p2
  try clear p6
  try clear p7
  try clear p761
  try clear p767
  try clear p769
  try clear q2
  try clear q22
  try clear q7
  try clear q761
  try clear q767
  try clear q769
  obtain ⟨x6_4,rfl,HA,HK4,HB⟩:=hrel
  cases gk with
  | zero=>exact absurd HA.out (by simp [r05_Closed.l3])
  | succ k4 =>
  have H:=HA.out
  clear HA
  simp only [r05_Closed.l3] at H
  by_cases c28:0<=x4_2
  rotate_left
  ·rw [if_neg c28] at H
   exact absurd H (by simp)
  rw [if_pos c28] at H
  have c28b0:decide (0<=x4_2)=true:=dT_ c28
  clear c28
  by_cases c29:x4_2<(l0.length:Int)
  rotate_left
  ·rw [if_neg c29] at H
   exact absurd H (by simp)
  rw [if_pos c29] at H
  have c29b0:decide (x4_2<(l0.length:Int))=true:=dT_ c29
  clear c29
  replace H:=oB_ H
  obtain ⟨t772,A300,H⟩:=H
  replace H:(if x6_4<=t772 then((r05_find.f k4 l0 x5_3 x6_4).bind λt773=>(if t773=true then(r05_Closed.l3 k4 l0 x4_2 x5_3 (wrap64 (x6_4+1))) else(some false))) else(r05_Closed.l2 k4 l0 x4_2 (wrap64 (x5_3+1))))=some r:=H
  have A30:=Aside0.mk A300
  clear A300
  by_cases c31:x6_4<=t772
  rotate_left
  ·rw [if_neg c31] at H
   have c31b0:decide (x6_4<=t772)=false:=dF_ c31
   clear c31
   have H':=Aside0.mk H
   clear H
   have p771:0<=(x4_2:Int):=oD_ z6_1
   have q771:x4_2<(l0.length:Int):=oD_ z6_1
   obtain ⟨ad771,A771_2,c771_2,A771_3,c771_3,e771,hx771_0,hx771_1,hx771_2,hx771_3,hl771_2,hi771_2,hl771_3,hi771_3⟩:=at_T30 HR0.out x4_2 p771 q771
   cases e771
   replace hx771_0:=(HB.out.cell (World.block_lt_of_cell? w _ hx771_0)).trans hx771_0
   replace hx771_1:=(HB.out.cell (World.block_lt_of_cell? w _ hx771_1)).trans hx771_1
   replace hx771_2:=(HB.out.cell (World.block_lt_of_cell? w _ hx771_2)).trans hx771_2
   replace hx771_3:=(HB.out.cell (World.block_lt_of_cell? w _ hx771_3)).trans hx771_3
   have HR771_2:=Aside0.mk hi771_2
   have HC771_2:=Aside0.mk hl771_2
   clear hi771_2 hl771_2
   have HR771_3:=Aside0.mk hi771_3
   have HC771_3:=Aside0.mk hl771_3
   clear hi771_3 hl771_3
   replace p771:=eq_true p771
   replace q771:=eq_true q771
   go_wp2_with (first|((with_reducible refine gate_callee (f:=58) rfl ?_);refine goesL_ (some 58) rfl rfl Try.func58 z3_17 rfl #[.slice A771_2 ((rd_T30 l0 x4_2).f1).length c771_2,.int .i64 x5_3] rfl z6_5 ?_;(with_reducible refine(r03_Get.calls k4 _ _ ((rd_T30 l0 x4_2).f1) x5_3 t772 _ ?side1 ?side2 A30.out).mono ?_);(case side1=>exact z36_9);(case side2=>exact HC771_2.out);rintro e w' ⟨rfl,⟨nd,rfl⟩⟩;refine ⟨_,rfl,?_⟩))
   go_roundg k4
   case measure=>have:=HK1.out;have:=HK2.out;have:=HK3.out;have:=HK4.out;omega
   case rel=>exact ⟨(wrap64 (x5_3+1)),z9_3,H',⟨(by have:=HK1.out;have:=HK2.out;have:=HK3.out;have:=HK4.out;omega)⟩,⟨z9_4⟩⟩
  rw [if_pos c31] at H
  have c31b0:decide (x6_4<=t772)=true:=dT_ c31
  clear c31
  replace H:=oB_ H
  obtain ⟨t773,A320,H⟩:=H
  replace H:(if t773=true then(r05_Closed.l3 k4 l0 x4_2 x5_3 (wrap64 (x6_4+1))) else(some false))=some r:=H
  have A32:=Aside0.mk A320
  clear A320
  by_cases c33:t773=true
  rotate_left
  ·replace c33:=Bool.eq_false_iff.mpr c33
   subst c33
   have H1:(some false)=some r:=by rw [if_neg (show ¬ (false=true) by decide)] at H;exact H
   clear H
   have H:=H1
   clear H1
   obtain rfl:=sI_ H
   have p771:0<=(x4_2:Int):=oD_ z6_1
   have q771:x4_2<(l0.length:Int):=oD_ z6_1
   obtain ⟨ad771,A771_2,c771_2,A771_3,c771_3,e771,hx771_0,hx771_1,hx771_2,hx771_3,hl771_2,hi771_2,hl771_3,hi771_3⟩:=at_T30 HR0.out x4_2 p771 q771
   cases e771
   replace hx771_0:=(HB.out.cell (World.block_lt_of_cell? w _ hx771_0)).trans hx771_0
   replace hx771_1:=(HB.out.cell (World.block_lt_of_cell? w _ hx771_1)).trans hx771_1
   replace hx771_2:=(HB.out.cell (World.block_lt_of_cell? w _ hx771_2)).trans hx771_2
   replace hx771_3:=(HB.out.cell (World.block_lt_of_cell? w _ hx771_3)).trans hx771_3
   have HR771_2:=Aside0.mk hi771_2
   have HC771_2:=Aside0.mk hl771_2
   clear hi771_2 hl771_2
   have HR771_3:=Aside0.mk hi771_3
   have HC771_3:=Aside0.mk hl771_3
   clear hi771_3 hl771_3
   replace p771:=eq_true p771
   replace q771:=eq_true q771
   go_wp2_with (first|((with_reducible refine gate_callee (f:=58) rfl ?_);refine goesL_ (some 58) rfl rfl Try.func58 z3_17 rfl #[.slice A771_2 ((rd_T30 l0 x4_2).f1).length c771_2,.int .i64 x5_3] rfl z6_5 ?_;(with_reducible refine(r03_Get.calls k4 _ _ ((rd_T30 l0 x4_2).f1) x5_3 t772 _ ?side1 ?side2 A30.out).mono ?_);(case side1=>exact z36_9);(case side2=>exact HC771_2.out);rintro e w' ⟨rfl,⟨nd,rfl⟩⟩;refine ⟨_,rfl,?_⟩)|((with_reducible refine gate_callee (f:=81) rfl ?_);refine goesL_ (some 66) rfl rfl Try.func81 z3_17 rfl #[.slice (some ad771) l0.length c0,.agg #[.int .i64 x5_3,.int .i64 x6_4]] rfl z6_5 ?_;(with_reducible refine(r05_find.calls k4 _ _ l0 x5_3 x6_4 false _ ?side1 ?side2 A32.out).mono ?_);(case side1=>exact z36_14);(case side2=>exact HC0.out);rintro e w35 ⟨rfl,hb⟩;refine ⟨_,rfl,?_⟩;replace HB:=U (below_step z9_4 hb);(try clear hb);(try clear hb2);(try clear hk);(try clear hi)))
   go_ret
   exact ⟨z9_2,z9_4⟩
  subst c33
  have H1:(r05_Closed.l3 k4 l0 x4_2 x5_3 (wrap64 (x6_4+1)))=some r:=by rw [if_pos rfl] at H;exact H
  clear H
  have H:=H1
  clear H1
  have H':=Aside0.mk H
  clear H
  have p771:0<=(x4_2:Int):=oD_ z6_1
  have q771:x4_2<(l0.length:Int):=oD_ z6_1
  obtain ⟨ad771,A771_2,c771_2,A771_3,c771_3,e771,hx771_0,hx771_1,hx771_2,hx771_3,hl771_2,hi771_2,hl771_3,hi771_3⟩:=at_T30 HR0.out x4_2 p771 q771
  cases e771
  replace hx771_0:=(HB.out.cell (World.block_lt_of_cell? w _ hx771_0)).trans hx771_0
  replace hx771_1:=(HB.out.cell (World.block_lt_of_cell? w _ hx771_1)).trans hx771_1
  replace hx771_2:=(HB.out.cell (World.block_lt_of_cell? w _ hx771_2)).trans hx771_2
  replace hx771_3:=(HB.out.cell (World.block_lt_of_cell? w _ hx771_3)).trans hx771_3
  have HR771_2:=Aside0.mk hi771_2
  have HC771_2:=Aside0.mk hl771_2
  clear hi771_2 hl771_2
  have HR771_3:=Aside0.mk hi771_3
  have HC771_3:=Aside0.mk hl771_3
  clear hi771_3 hl771_3
  replace p771:=eq_true p771
  replace q771:=eq_true q771
  go_wp2_with (first|((with_reducible refine gate_callee (f:=58) rfl ?_);refine goesL_ (some 58) rfl rfl Try.func58 z3_17 rfl #[.slice A771_2 ((rd_T30 l0 x4_2).f1).length c771_2,.int .i64 x5_3] rfl z6_5 ?_;(with_reducible refine(r03_Get.calls k4 _ _ ((rd_T30 l0 x4_2).f1) x5_3 t772 _ ?side1 ?side2 A30.out).mono ?_);(case side1=>exact z36_9);(case side2=>exact HC771_2.out);rintro e w' ⟨rfl,⟨nd,rfl⟩⟩;refine ⟨_,rfl,?_⟩)|((with_reducible refine gate_callee (f:=81) rfl ?_);refine goesL_ (some 66) rfl rfl Try.func81 z3_17 rfl #[.slice (some ad771) l0.length c0,.agg #[.int .i64 x5_3,.int .i64 x6_4]] rfl z6_5 ?_;(with_reducible refine(r05_find.calls k4 _ _ l0 x5_3 x6_4 true _ ?side1 ?side2 A32.out).mono ?_);(case side1=>exact z36_14);(case side2=>exact HC0.out);rintro e w34 ⟨rfl,hb⟩;refine ⟨_,rfl,?_⟩;replace HB:=U (below_step z9_4 hb);(try clear hb);(try clear hb2);(try clear hk);(try clear hi)))
  go_roundg k4
  case measure=>have:=HK1.out;have:=HK2.out;have:=HK3.out;have:=HK4.out;omega
  case rel=>exact ⟨(wrap64 (x6_4+1)),z9_3,H',⟨(by have:=HK1.out;have:=HK2.out;have:=HK3.out;have:=HK4.out;omega)⟩,⟨z9_4⟩⟩
 rw [if_pos c2] at H
 have c2b0:decide (x3_1<(l0.length:Int))=true:=dT_ c2
 clear c2
 by_cases c3:0<=x3_1
 rotate_left
 ·rw [if_neg c3] at H
  exact absurd H (by simp)
 rw [if_pos c3] at H
 have c3b0:decide (0<=x3_1)=true:=dT_ c3
 clear c3
 replace H:=oB_ H
 obtain ⟨t762,A40,H⟩:=H
 replace H:(if t762=true then(if x3_1<=(l0.length:Int) then((r05_find.f k1 (l0.take (x3_1:Int).toNat) ((rd_T30 l0 x3_1).f0.f0) ((rd_T30 l0 x3_1).f0.f1)).bind λt768=>(if t768=true then(some false) else((r03_Sum.f k1 ((rd_T30 l0 x3_1).f1)).bind λt770=>(if t770>=(l0.length:Int) then(some false) else(r05_Closed.l0 k1 l0 (wrap64 (x3_1+1))))))) else(none)) else(some false))=some r:=H
 have A4:=Aside0.mk A40
 clear A40
 by_cases c5:t762=true
 rotate_left
 ·replace c5:=Bool.eq_false_iff.mpr c5
  subst c5
  have H1:(some false)=some r:=by rw [if_neg (show ¬ (false=true) by decide)] at H;exact H
  clear H
  have H:=H1
  clear H1
  obtain rfl:=sI_ H
  try go_wp2
  have n0_:=U (below_drew1 HB.out)
  clear HB
  have HB:=n0_
  clear n0_
  have p761:0<=(x3_1:Int):=oD_ z6_1
  have q761:x3_1<(l0.length:Int):=oD_ z6_1
  obtain ⟨ad761,A761_2,c761_2,A761_3,c761_3,e761,hx761_0,hx761_1,hx761_2,hx761_3,hl761_2,hi761_2,hl761_3,hi761_3⟩:=at_T30 HR0.out x3_1 p761 q761
  have hw761_3:=hx761_3
  have hw761_2:=hx761_2
  have hw761_1:=hx761_1
  have hw761_0:=hx761_0
  cases e761
  replace hx761_0:=(HB.out.cell (World.block_lt_of_cell? w _ hx761_0)).trans hx761_0
  replace hx761_1:=(HB.out.cell (World.block_lt_of_cell? w _ hx761_1)).trans hx761_1
  replace hx761_2:=(HB.out.cell (World.block_lt_of_cell? w _ hx761_2)).trans hx761_2
  replace hx761_3:=(HB.out.cell (World.block_lt_of_cell? w _ hx761_3)).trans hx761_3
  have HR761_2:=Aside0.mk hi761_2
  have HC761_2:=Aside0.mk hl761_2
  clear hi761_2 hl761_2
  have HR761_3:=Aside0.mk hi761_3
  have HC761_3:=Aside0.mk hl761_3
  clear hi761_3 hl761_3
  replace p761:=eq_true p761
  replace q761:=eq_true q761
  refine start_ (n:=28) (S:=λw'=>w'.cell? (ad761.add ((x3_1).toNat*4))=some (.int .i64 ((rd_T30 l0 x3_1).f0.f0))/\w'.cell? ⟨(ad761.add ((x3_1).toNat*4)).block,(ad761.add ((x3_1).toNat*4)).off+1,none⟩=some (.int .i64 ((rd_T30 l0 x3_1).f0.f1))/\w'.cell? ⟨(ad761.add ((x3_1).toNat*4)).block,(ad761.add ((x3_1).toNat*4)).off+2,none⟩=some (.slice A761_2 ((rd_T30 l0 x3_1).f1).length c761_2)/\w'.cell? ⟨(ad761.add ((x3_1).toNat*4)).block,(ad761.add ((x3_1).toNat*4)).off+3,none⟩=some (.slice A761_3 ((rd_T30 l0 x3_1).f2).length c761_3)) (ds:=[]) #[J,J,J,J,J,J,J,J,J,J,J,J,J,J,J,J,J,J,J,J,J,J,J,J,J,J,J,J] z3_17 rfl rfl ⟨((HB.out.cell (World.block_lt_of_cell? w _ hw761_0)).trans hw761_0),((HB.out.cell (World.block_lt_of_cell? w _ hw761_1)).trans hw761_1),((HB.out.cell (World.block_lt_of_cell? w _ hw761_2)).trans hw761_2),((HB.out.cell (World.block_lt_of_cell? w _ hw761_3)).trans hw761_3)⟩ (λhHeld=>?_);refine with_tabW r05_Closed.tab4 r05_Closed.bits4 (λHT_ HW_=>?_)
  generalize wr.drew=w24 at HB HR761_2 HR761_3 hx761_0 hx761_1 hx761_2 hx761_3 hHeld ⊢
  refine pure_ (i:=0) (N:=some 13) (v:=?_) (a':=?_) #[Y,J,J,J,J,J,J,J,J,J,J,J,J,J,J,J,J,J,J,J,J,J,J,J,J,J,J,J] rfl rfl (any_of HT_.out z3_17) (λ_ _ _ h=>h) (Or.inl ⟨(by rfl),?_⟩) ?_ ?_
  rotate_left
  ·intro w'
   go_simp
   with_reducible rfl
  rotate_left
  ·exact z3_3
  refine pure_ (i:=1) (N:=some 14) (v:=?_) (a':=?_) #[Y,Y,J,J,J,J,J,J,J,J,J,J,J,J,J,J,J,J,J,J,J,J,J,J,J,J,J,J] rfl rfl (any_of HT_.out z3_17) (λ_ _ _ h=>h) (Or.inl ⟨(by rfl),?_⟩) ?_ ?_
  rotate_left
  ·intro w'
   go_simp
   with_reducible rfl
  rotate_left
  ·exact z3_3
  refine pure_ (i:=2) (N:=some 15) (v:=?_) (a':=?_) #[Y,Y,Y,J,J,J,J,J,J,J,J,J,J,J,J,J,J,J,J,J,J,J,J,J,J,J,J,J] rfl rfl (any_of HT_.out z3_17) (λ_ _ _ h=>h) (Or.inl ⟨(by rfl),?_⟩) ?_ ?_
  rotate_left
  ·intro w'
   go_simp
   with_reducible rfl
  rotate_left
  ·exact z3_3
  refine take_ (i:=3) (N:=some 16) (v:=?_) (a':=?_) #[Y,Y,Y,Y,J,J,J,J,J,J,J,J,J,J,J,J,J,J,J,J,J,J,J,J,J,J,J,J] rfl rfl (take_ofW HT_.out HW_.out z3_17) (λ_ _ _ h=>h) (Or.inl ⟨(by rfl),?_⟩) hHeld ?_ ?_
  rotate_left
  ·rintro w' ⟨s0,s1,s2,s3⟩
   go_simp
   with_reducible rfl
  rotate_left
  ·exact z3_3
  refine one_ (i:=4) (N:=some 17) #[Y,Y,Y,Y,Y,J,J,J,J,J,J,J,J,J,J,J,J,J,J,J,J,J,J,J,J,J,J,J] rfl rfl (one_of HT_.out z3_17) (by decide) (λK hK=>?_)
  refine goes_ Try.func17 z3_17 rfl #[.agg #[.int .i64 ((rd_T30 l0 x3_1).f0.f0),.int .i64 ((rd_T30 l0 x3_1).f0.f1),.slice A761_2 ((rd_T30 l0 x3_1).f1).length c761_2,.slice A761_3 ((rd_T30 l0 x3_1).f2).length c761_3]] (by rfl) rfl rfl z6_5 ?_
  with_reducible refine(r05_May.calls k1 ((rd_T30 l0 x3_1).f0.f0) ((rd_T30 l0 x3_1).f0.f1) _ _ ((rd_T30 l0 x3_1).f1) _ _ ((rd_T30 l0 x3_1).f2) false _ ?side1 ?side2 ?side3 ?side4 A4.out).mono ?_
  (case side1=>exact z36_5)
  (case side2=>exact HC761_2.out)
  (case side3=>exact z36_6)
  (case side4=>exact HC761_3.out)
  rintro e w25 ⟨rfl,hb⟩
  refine ⟨_,rfl,?_⟩
  have n0_:=U (below_step z9_4 hb)
  clear HB
  have HB:=n0_
  clear n0_
  (try clear hb)
  (try clear hb2)
  (try clear hk)
  (try clear hi)
  refine hK.out _ _ ⟨((HB.out.cell (World.block_lt_of_cell? w _ hw761_0)).trans hw761_0),((HB.out.cell (World.block_lt_of_cell? w _ hw761_1)).trans hw761_1),((HB.out.cell (World.block_lt_of_cell? w _ hw761_2)).trans hw761_2),((HB.out.cell (World.block_lt_of_cell? w _ hw761_3)).trans hw761_3)⟩ (λhHeld=>?_)
  clear hK K
  refine norm_ (a':=?_) ?_ ?_
  rotate_left
  ·exact z11_13
  refine pure_ (i:=5) (N:=some 18) (v:=?_) (a':=?_) #[Y,Y,Y,Y,Y,Y,J,J,J,J,J,J,J,J,J,J,J,J,J,J,J,J,J,J,J,J,J,J] rfl rfl (any_of HT_.out z3_17) (λ_ _ _ h=>h) (Or.inl ⟨(by rfl),?_⟩) ?_ ?_
  rotate_left
  ·intro w'
   go_simp
   with_reducible rfl
  rotate_left
  ·exact z3_3
  refine pure_ (i:=6) (N:=some 19) (v:=?_) (a':=?_) #[Y,Y,Y,Y,Y,Y,Y,J,J,J,J,J,J,J,J,J,J,J,J,J,J,J,J,J,J,J,J,J] rfl rfl (any_of HT_.out z3_17) (λ_ _ _ h=>h) (Or.inl ⟨(by rfl),?_⟩) ?_ ?_
  rotate_left
  ·intro w'
   go_simp
   with_reducible rfl
  rotate_left
  ·exact z3_3
  refine pure_ (i:=7) (N:=some 20) (v:=undef) (a':=?_) #[Y,Y,Y,Y,Y,Y,Y,Y,J,J,J,J,J,J,J,J,J,J,J,J,J,J,J,J,J,J,J,J] rfl rfl (any_of HT_.out z3_17) (λ_ _ _ h=>h) (Or.inr ⟨(by rfl),rfl⟩) ?_ ?_
  rotate_left
  ·exact z3_3
  refine pure_ (i:=8) (N:=some 21) (v:=undef) (a':=?_) #[Y,Y,Y,Y,Y,Y,Y,Y,Y,J,J,J,J,J,J,J,J,J,J,J,J,J,J,J,J,J,J,J] rfl rfl (any_of HT_.out z3_17) (λ_ _ _ h=>h) (Or.inr ⟨(by rfl),rfl⟩) ?_ ?_
  rotate_left
  ·exact z3_3
  refine pure_ (i:=9) (N:=some 22) (v:=undef) (a':=?_) #[Y,Y,Y,Y,Y,Y,Y,Y,Y,Y,J,J,J,J,J,J,J,J,J,J,J,J,J,J,J,J,J,J] rfl rfl (any_of HT_.out z3_17) (λ_ _ _ h=>h) (Or.inr ⟨(by rfl),rfl⟩) ?_ ?_
  rotate_left
  ·exact z3_3
  refine pure_ (i:=10) (N:=some 23) (v:=undef) (a':=?_) #[Y,Y,Y,Y,Y,Y,Y,Y,Y,Y,Y,J,J,J,J,J,J,J,J,J,J,J,J,J,J,J,J,J] rfl rfl (any_of HT_.out z3_17) (λ_ _ _ h=>h) (Or.inr ⟨(by rfl),rfl⟩) ?_ ?_
  rotate_left
  ·exact z3_3
  refine pure_ (i:=11) (N:=some 24) (v:=undef) (a':=?_) #[Y,Y,Y,Y,Y,Y,Y,Y,Y,Y,Y,Y,J,J,J,J,J,J,J,J,J,J,J,J,J,J,J,J] rfl rfl (any_of HT_.out z3_17) (λ_ _ _ h=>h) (Or.inr ⟨(by rfl),rfl⟩) ?_ ?_
  rotate_left
  ·exact z3_3
  refine pure_ (i:=12) (N:=some 25) (v:=undef) (a':=?_) #[Y,Y,Y,Y,Y,Y,Y,Y,Y,Y,Y,Y,Y,J,J,J,J,J,J,J,J,J,J,J,J,J,J,J] rfl rfl (any_of HT_.out z3_17) (λ_ _ _ h=>h) (Or.inr ⟨(by rfl),rfl⟩) ?_ ?_
  rotate_left
  ·exact z3_3
  refine pure_ (i:=13) (N:=some 26) (v:=undef) (a':=?_) #[Y,Y,Y,Y,Y,Y,Y,Y,Y,Y,Y,Y,Y,Y,J,J,J,J,J,J,J,J,J,J,J,J,J,J] rfl rfl (any_of HT_.out z3_17) (λ_ _ _ h=>h) (Or.inr ⟨(by rfl),rfl⟩) ?_ ?_
  rotate_left
  ·exact z3_3
  refine pure_ (i:=14) (N:=some 27) (v:=undef) (a':=?_) #[Y,Y,Y,Y,Y,Y,Y,Y,Y,Y,Y,Y,Y,Y,Y,J,J,J,J,J,J,J,J,J,J,J,J,J] rfl rfl (any_of HT_.out z3_17) (λ_ _ _ h=>h) (Or.inr ⟨(by rfl),rfl⟩) ?_ ?_
  rotate_left
  ·exact z3_3
  refine pure_ (i:=15) (N:=some 28) (v:=undef) (a':=?_) #[Y,Y,Y,Y,Y,Y,Y,Y,Y,Y,Y,Y,Y,Y,Y,Y,J,J,J,J,J,J,J,J,J,J,J,J] rfl rfl (any_of HT_.out z3_17) (λ_ _ _ h=>h) (Or.inr ⟨(by rfl),rfl⟩) ?_ ?_
  rotate_left
  ·exact z3_3
  refine pure_ (i:=16) (N:=some 29) (v:=?_) (a':=?_) #[Y,Y,Y,Y,Y,Y,Y,Y,Y,Y,Y,Y,Y,Y,Y,Y,Y,J,J,J,J,J,J,J,J,J,J,J] rfl rfl (any_of HT_.out z3_17) (λ_ _ _ h=>h) (Or.inl ⟨(by rfl),?_⟩) ?_ ?_
  rotate_left
  ·intro w'
   go_simp
   with_reducible rfl
  rotate_left
  ·exact z3_3
  refine pure_ (i:=17) (N:=some 30) (v:=?_) (a':=?_) #[Y,Y,Y,Y,Y,Y,Y,Y,Y,Y,Y,Y,Y,Y,Y,Y,Y,Y,J,J,J,J,J,J,J,J,J,J] rfl rfl (any_of HT_.out z3_17) (λ_ _ _ h=>h) (Or.inl ⟨(by rfl),?_⟩) ?_ ?_
  rotate_left
  ·intro w'
   go_simp
   with_reducible rfl
  rotate_left
  ·exact z3_3
  refine pure_ (i:=18) (N:=some 31) (v:=undef) (a':=?_) #[Y,Y,Y,Y,Y,Y,Y,Y,Y,Y,Y,Y,Y,Y,Y,Y,Y,Y,Y,J,J,J,J,J,J,J,J,J] rfl rfl (any_of HT_.out z3_17) (λ_ _ _ h=>h) (Or.inr ⟨(by rfl),rfl⟩) ?_ ?_
  rotate_left
  ·exact z3_3
  refine pure_ (i:=19) (N:=some 32) (v:=undef) (a':=?_) #[Y,Y,Y,Y,Y,Y,Y,Y,Y,Y,Y,Y,Y,Y,Y,Y,Y,Y,Y,Y,J,J,J,J,J,J,J,J] rfl rfl (any_of HT_.out z3_17) (λ_ _ _ h=>h) (Or.inr ⟨(by rfl),rfl⟩) ?_ ?_
  rotate_left
  ·exact z3_3
  refine pure_ (i:=20) (N:=some 33) (v:=undef) (a':=?_) #[Y,Y,Y,Y,Y,Y,Y,Y,Y,Y,Y,Y,Y,Y,Y,Y,Y,Y,Y,Y,Y,J,J,J,J,J,J,J] rfl rfl (any_of HT_.out z3_17) (λ_ _ _ h=>h) (Or.inr ⟨(by rfl),rfl⟩) ?_ ?_
  rotate_left
  ·exact z3_3
  refine pure_ (i:=21) (N:=some 34) (v:=undef) (a':=?_) #[Y,Y,Y,Y,Y,Y,Y,Y,Y,Y,Y,Y,Y,Y,Y,Y,Y,Y,Y,Y,Y,Y,J,J,J,J,J,J] rfl rfl (any_of HT_.out z3_17) (λ_ _ _ h=>h) (Or.inr ⟨(by rfl),rfl⟩) ?_ ?_
  rotate_left
  ·exact z3_3
  refine pure_ (i:=22) (N:=some 35) (v:=undef) (a':=?_) #[Y,Y,Y,Y,Y,Y,Y,Y,Y,Y,Y,Y,Y,Y,Y,Y,Y,Y,Y,Y,Y,Y,Y,J,J,J,J,J] rfl rfl (any_of HT_.out z3_17) (λ_ _ _ h=>h) (Or.inr ⟨(by rfl),rfl⟩) ?_ ?_
  rotate_left
  ·exact z3_3
  refine pure_ (i:=23) (N:=some 36) (v:=undef) (a':=?_) #[Y,Y,Y,Y,Y,Y,Y,Y,Y,Y,Y,Y,Y,Y,Y,Y,Y,Y,Y,Y,Y,Y,Y,Y,J,J,J,J] rfl rfl (any_of HT_.out z3_17) (λ_ _ _ h=>h) (Or.inr ⟨(by rfl),rfl⟩) ?_ ?_
  rotate_left
  ·exact z3_3
  refine pure_ (i:=24) (N:=some 37) (v:=undef) (a':=?_) #[Y,Y,Y,Y,Y,Y,Y,Y,Y,Y,Y,Y,Y,Y,Y,Y,Y,Y,Y,Y,Y,Y,Y,Y,Y,J,J,J] rfl rfl (any_of HT_.out z3_17) (λ_ _ _ h=>h) (Or.inr ⟨(by rfl),rfl⟩) ?_ ?_
  rotate_left
  ·exact z3_3
  refine pure_ (i:=25) (N:=some 38) (v:=undef) (a':=?_) #[Y,Y,Y,Y,Y,Y,Y,Y,Y,Y,Y,Y,Y,Y,Y,Y,Y,Y,Y,Y,Y,Y,Y,Y,Y,Y,J,J] rfl rfl (any_of HT_.out z3_17) (λ_ _ _ h=>h) (Or.inr ⟨(by rfl),rfl⟩) ?_ ?_
  rotate_left
  ·exact z3_3
  refine pure_ (i:=26) (N:=some 39) (v:=undef) (a':=?_) #[Y,Y,Y,Y,Y,Y,Y,Y,Y,Y,Y,Y,Y,Y,Y,Y,Y,Y,Y,Y,Y,Y,Y,Y,Y,Y,Y,J] rfl rfl (any_of HT_.out z3_17) (λ_ _ _ h=>h) (Or.inr ⟨(by rfl),rfl⟩) ?_ ?_
  rotate_left
  ·exact z3_3
  refine pure_ (i:=27) (N:=some 40) (v:=?_) (a':=?_) #[Y,Y,Y,Y,Y,Y,Y,Y,Y,Y,Y,Y,Y,Y,Y,Y,Y,Y,Y,Y,Y,Y,Y,Y,Y,Y,Y,Y] rfl rfl (any_of HT_.out z3_17) (λ_ _ _ h=>h) (Or.inl ⟨(by rfl),?_⟩) ?_ ?_
  rotate_left
  ·intro w'
   go_simp
   with_reducible rfl
  rotate_left
  ·exact z3_3
  refine done_ (done_of HT_.out z3_17) ?_
  try go_wp2
  go_ret
  exact ⟨z9_2,z9_4⟩
 subst c5
 have H1:(if x3_1<=(l0.length:Int) then((r05_find.f k1 (l0.take (x3_1:Int).toNat) ((rd_T30 l0 x3_1).f0.f0) ((rd_T30 l0 x3_1).f0.f1)).bind λt768=>(if t768=true then(some false) else((r03_Sum.f k1 ((rd_T30 l0 x3_1).f1)).bind λt770=>(if t770>=(l0.length:Int) then(some false) else(r05_Closed.l0 k1 l0 (wrap64 (x3_1+1))))))) else(none))=some r:=by rw [if_pos rfl] at H;exact H
 clear H
 have H:=H1
 clear H1
 have c6b0:=eq_true (oD_ z6_1:0<=x3_1)
 by_cases c7:x3_1<=(l0.length:Int)
 rotate_left
 ·rw [if_neg c7] at H
  exact absurd H (by simp)
 rw [if_pos c7] at H
 have c7b0:=eq_true c7
 have c7b1:decide (x3_1<=(l0.length:Int))=true:=dT_ c7
 clear c7
 obtain ⟨y763,hy763⟩:∃ y_:List (S30),y_=(l0.take (x3_1:Int).toNat):=⟨_,rfl⟩
 replace H:((r05_find.f k1 y763 ((rd_T30 l0 x3_1).f0.f0) ((rd_T30 l0 x3_1).f0.f1)).bind λt768=>(if t768=true then(some false) else((r03_Sum.f k1 ((rd_T30 l0 x3_1).f1)).bind λt770=>(if t770>=(l0.length:Int) then(some false) else(r05_Closed.l0 k1 l0 (wrap64 (x3_1+1)))))))=some r:=by first|(rw [hy763];with_reducible exact H)|(have H2_:=(Option.bind_some _ _).symm.trans H;rw [hy763];with_reducible exact H2_)|(have H2_:=(Option.bind_some _ _).symm.trans H;with_reducible exact H2_)|with_reducible exact H|(rw [hy763];exact H)|exact H
 have Ny763:=Aside0.mk hy763
 clear hy763
 replace H:=oB_ H
 obtain ⟨t768,A80,H⟩:=H
 replace H:(if t768=true then(some false) else((r03_Sum.f k1 ((rd_T30 l0 x3_1).f1)).bind λt770=>(if t770>=(l0.length:Int) then(some false) else(r05_Closed.l0 k1 l0 (wrap64 (x3_1+1))))))=some r:=H
 have A8:=Aside0.mk A80
 clear A80
 by_cases c9:t768=true
 ·subst c9
  have H1:(some false)=some r:=by rw [if_pos rfl] at H;exact H
  clear H
  have H:=H1
  clear H1
  obtain rfl:=sI_ H
  try go_wp2
  have n0_:=U (below_drew1 HB.out)
  clear HB
  have HB:=n0_
  clear n0_
  have p761:0<=(x3_1:Int):=oD_ z6_1
  have q761:x3_1<(l0.length:Int):=oD_ z6_1
  obtain ⟨ad761,A761_2,c761_2,A761_3,c761_3,e761,hx761_0,hx761_1,hx761_2,hx761_3,hl761_2,hi761_2,hl761_3,hi761_3⟩:=at_T30 HR0.out x3_1 p761 q761
  have hw761_3:=hx761_3
  have hw761_2:=hx761_2
  have hw761_1:=hx761_1
  have hw761_0:=hx761_0
  cases e761
  replace hx761_0:=(HB.out.cell (World.block_lt_of_cell? w _ hx761_0)).trans hx761_0
  replace hx761_1:=(HB.out.cell (World.block_lt_of_cell? w _ hx761_1)).trans hx761_1
  replace hx761_2:=(HB.out.cell (World.block_lt_of_cell? w _ hx761_2)).trans hx761_2
  replace hx761_3:=(HB.out.cell (World.block_lt_of_cell? w _ hx761_3)).trans hx761_3
  have HR761_2:=Aside0.mk hi761_2
  have HC761_2:=Aside0.mk hl761_2
  clear hi761_2 hl761_2
  have HR761_3:=Aside0.mk hi761_3
  have HC761_3:=Aside0.mk hl761_3
  clear hi761_3 hl761_3
  replace p761:=eq_true p761
  replace q761:=eq_true q761
  have p767:0<=(x3_1:Int):=oD_ z6_1
  have q767:x3_1<(l0.length:Int):=oD_ z6_1
  obtain ⟨ad767,A767_2,c767_2,A767_3,c767_3,e767,hx767_0,hx767_1,hx767_2,hx767_3,hl767_2,hi767_2,hl767_3,hi767_3⟩:=at_T30 HR0.out x3_1 p767 q767
  have hw767_3:=hx767_3
  have hw767_2:=hx767_2
  have hw767_1:=hx767_1
  have hw767_0:=hx767_0
  obtain rfl:ad761=ad767:=(by injection e767)
  obtain ⟨rfl,rfl⟩:A761_2=A767_2/\c761_2=c767_2:=by have h_:=sI_ (hw761_2.symm.trans hw767_2);injection h_ with h1_ h2_ h3_;exact ⟨h1_,h3_⟩
  obtain ⟨rfl,rfl⟩:A761_3=A767_3/\c761_3=c767_3:=by have h_:=sI_ (hw761_3.symm.trans hw767_3);injection h_ with h1_ h2_ h3_;exact ⟨h1_,h3_⟩
  replace hx767_0:=(HB.out.cell (World.block_lt_of_cell? w _ hx767_0)).trans hx767_0
  replace hx767_1:=(HB.out.cell (World.block_lt_of_cell? w _ hx767_1)).trans hx767_1
  replace hx767_2:=(HB.out.cell (World.block_lt_of_cell? w _ hx767_2)).trans hx767_2
  replace hx767_3:=(HB.out.cell (World.block_lt_of_cell? w _ hx767_3)).trans hx767_3
  have HR767_2:=Aside0.mk hi767_2
  have HC767_2:=Aside0.mk hl767_2
  clear hi767_2 hl767_2
  have HR767_3:=Aside0.mk hi767_3
  have HC767_3:=Aside0.mk hl767_3
  clear hi767_3 hl767_3
  replace p767:=eq_true p767
  replace q767:=eq_true q767
  refine start_ (n:=28) (S:=λw'=>w'.cell? (ad761.add ((x3_1).toNat*4))=some (.int .i64 ((rd_T30 l0 x3_1).f0.f0))/\w'.cell? ⟨(ad761.add ((x3_1).toNat*4)).block,(ad761.add ((x3_1).toNat*4)).off+1,none⟩=some (.int .i64 ((rd_T30 l0 x3_1).f0.f1))/\w'.cell? ⟨(ad761.add ((x3_1).toNat*4)).block,(ad761.add ((x3_1).toNat*4)).off+2,none⟩=some (.slice A761_2 ((rd_T30 l0 x3_1).f1).length c761_2)/\w'.cell? ⟨(ad761.add ((x3_1).toNat*4)).block,(ad761.add ((x3_1).toNat*4)).off+3,none⟩=some (.slice A761_3 ((rd_T30 l0 x3_1).f2).length c761_3)/\w'.cell? (ad761.add ((x3_1).toNat*4))=some (.int .i64 ((rd_T30 l0 x3_1).f0.f0))/\w'.cell? ⟨(ad761.add ((x3_1).toNat*4)).block,(ad761.add ((x3_1).toNat*4)).off+1,none⟩=some (.int .i64 ((rd_T30 l0 x3_1).f0.f1))/\w'.cell? ⟨(ad761.add ((x3_1).toNat*4)).block,(ad761.add ((x3_1).toNat*4)).off+2,none⟩=some (.slice A761_2 ((rd_T30 l0 x3_1).f1).length c761_2)/\w'.cell? ⟨(ad761.add ((x3_1).toNat*4)).block,(ad761.add ((x3_1).toNat*4)).off+3,none⟩=some (.slice A761_3 ((rd_T30 l0 x3_1).f2).length c761_3)) (ds:=[]) #[J,J,J,J,J,J,J,J,J,J,J,J,J,J,J,J,J,J,J,J,J,J,J,J,J,J,J,J] z3_17 rfl rfl ⟨((HB.out.cell (World.block_lt_of_cell? w _ hw761_0)).trans hw761_0),((HB.out.cell (World.block_lt_of_cell? w _ hw761_1)).trans hw761_1),((HB.out.cell (World.block_lt_of_cell? w _ hw761_2)).trans hw761_2),((HB.out.cell (World.block_lt_of_cell? w _ hw761_3)).trans hw761_3),((HB.out.cell (World.block_lt_of_cell? w _ hw767_0)).trans hw767_0),((HB.out.cell (World.block_lt_of_cell? w _ hw767_1)).trans hw767_1),((HB.out.cell (World.block_lt_of_cell? w _ hw767_2)).trans hw767_2),((HB.out.cell (World.block_lt_of_cell? w _ hw767_3)).trans hw767_3)⟩ (λhHeld=>?_);refine with_tabW r05_Closed.tab4 r05_Closed.bits4 (λHT_ HW_=>?_)
  generalize wr.drew=w10 at HB HR761_2 HR761_3 HR767_2 HR767_3 hx761_0 hx761_1 hx761_2 hx761_3 hx767_0 hx767_1 hx767_2 hx767_3 hHeld ⊢
  refine pure_ (i:=0) (N:=some 13) (v:=?_) (a':=?_) #[Y,J,J,J,J,J,J,J,J,J,J,J,J,J,J,J,J,J,J,J,J,J,J,J,J,J,J,J] rfl rfl (any_of HT_.out z3_17) (λ_ _ _ h=>h) (Or.inl ⟨(by rfl),?_⟩) ?_ ?_
  rotate_left
  ·intro w'
   go_simp
   with_reducible rfl
  rotate_left
  ·exact z3_3
  refine pure_ (i:=1) (N:=some 14) (v:=?_) (a':=?_) #[Y,Y,J,J,J,J,J,J,J,J,J,J,J,J,J,J,J,J,J,J,J,J,J,J,J,J,J,J] rfl rfl (any_of HT_.out z3_17) (λ_ _ _ h=>h) (Or.inl ⟨(by rfl),?_⟩) ?_ ?_
  rotate_left
  ·intro w'
   go_simp
   with_reducible rfl
  rotate_left
  ·exact z3_3
  refine pure_ (i:=2) (N:=some 15) (v:=?_) (a':=?_) #[Y,Y,Y,J,J,J,J,J,J,J,J,J,J,J,J,J,J,J,J,J,J,J,J,J,J,J,J,J] rfl rfl (any_of HT_.out z3_17) (λ_ _ _ h=>h) (Or.inl ⟨(by rfl),?_⟩) ?_ ?_
  rotate_left
  ·intro w'
   go_simp
   with_reducible rfl
  rotate_left
  ·exact z3_3
  refine take_ (i:=3) (N:=some 16) (v:=?_) (a':=?_) #[Y,Y,Y,Y,J,J,J,J,J,J,J,J,J,J,J,J,J,J,J,J,J,J,J,J,J,J,J,J] rfl rfl (take_ofW HT_.out HW_.out z3_17) (λ_ _ _ h=>h) (Or.inl ⟨(by rfl),?_⟩) hHeld ?_ ?_
  rotate_left
  ·rintro w' ⟨s0,s1,s2,s3,s4,s5,s6,s7⟩
   go_simp
   with_reducible rfl
  rotate_left
  ·exact z3_3
  refine one_ (i:=4) (N:=some 17) #[Y,Y,Y,Y,Y,J,J,J,J,J,J,J,J,J,J,J,J,J,J,J,J,J,J,J,J,J,J,J] rfl rfl (one_of HT_.out z3_17) (by decide) (λK hK=>?_)
  refine goes_ Try.func17 z3_17 rfl #[.agg #[.int .i64 ((rd_T30 l0 x3_1).f0.f0),.int .i64 ((rd_T30 l0 x3_1).f0.f1),.slice A761_2 ((rd_T30 l0 x3_1).f1).length c761_2,.slice A761_3 ((rd_T30 l0 x3_1).f2).length c761_3]] (by rfl) rfl rfl z6_5 ?_
  with_reducible refine(r05_May.calls k1 ((rd_T30 l0 x3_1).f0.f0) ((rd_T30 l0 x3_1).f0.f1) _ _ ((rd_T30 l0 x3_1).f1) _ _ ((rd_T30 l0 x3_1).f2) true _ ?side1 ?side2 ?side3 ?side4 A4.out).mono ?_
  (case side1=>exact z36_5)
  (case side2=>exact HC761_2.out)
  (case side3=>exact z36_6)
  (case side4=>exact HC761_3.out)
  rintro e w11 ⟨rfl,hb⟩
  refine ⟨_,rfl,?_⟩
  have n0_:=U (below_step z9_4 hb)
  clear HB
  have HB:=n0_
  clear n0_
  (try clear hb)
  (try clear hb2)
  (try clear hk)
  (try clear hi)
  have q12:(x3_1:Int)<=((l0.length:Int):Int):=oD_ z6_1
  obtain ⟨i012,hi012,_,hsz12,_⟩:=info_parts info30
  have hroom12:l0.length<=c0:=HC0.out
  have hC12:Kd.C k30 _ (some ad761) l0.length l0:=HR0.out
  have hcut12:=cut_to (P:=Try.prog) 38 30 .i64 Try.underlying38 hi012 (some ad761) l0.length c0 x3_1 (oD_ z6_1) q12 hroom12
  have hr12:=Kd.C_take (m:=(x3_1:Int).toNat) hC12 (by omega)
  have hy12:y763.length=(x3_1:Int).toNat:=(by rw [Ny763.out,List.length_take];omega)
  rw [<-Ny763.out] at hr12
  rw [<-hy12] at hcut12
  have HR766:=Aside0.mk hr12
  have HC766:=U (show y763.length<=c0 from by omega)
  clear hr12 hC12 hroom12 hi012 hsz12
  have KY12:=Aside0.mk hy12
  clear hy12
  replace q12:=eq_true q12
  refine hK.out _ _ ⟨((HB.out.cell (World.block_lt_of_cell? w _ hw761_0)).trans hw761_0),((HB.out.cell (World.block_lt_of_cell? w _ hw761_1)).trans hw761_1),((HB.out.cell (World.block_lt_of_cell? w _ hw761_2)).trans hw761_2),((HB.out.cell (World.block_lt_of_cell? w _ hw761_3)).trans hw761_3),((HB.out.cell (World.block_lt_of_cell? w _ hw767_0)).trans hw767_0),((HB.out.cell (World.block_lt_of_cell? w _ hw767_1)).trans hw767_1),((HB.out.cell (World.block_lt_of_cell? w _ hw767_2)).trans hw767_2),((HB.out.cell (World.block_lt_of_cell? w _ hw767_3)).trans hw767_3)⟩ (λhHeld=>?_)
  clear hK K
  refine norm_ (a':=?_) ?_ ?_
  rotate_left
  ·exact z11_13
  refine pure_ (i:=5) (N:=some 18) (v:=?_) (a':=?_) #[Y,Y,Y,Y,Y,Y,J,J,J,J,J,J,J,J,J,J,J,J,J,J,J,J,J,J,J,J,J,J] rfl rfl (any_of HT_.out z3_17) (λ_ _ _ h=>h) (Or.inl ⟨(by rfl),?_⟩) ?_ ?_
  rotate_left
  ·intro w'
   go_simp
   with_reducible rfl
  rotate_left
  ·exact z3_3
  refine pure_ (i:=6) (N:=some 19) (v:=?_) (a':=?_) #[Y,Y,Y,Y,Y,Y,Y,J,J,J,J,J,J,J,J,J,J,J,J,J,J,J,J,J,J,J,J,J] rfl rfl (any_of HT_.out z3_17) (λ_ _ _ h=>h) (Or.inl ⟨(by rfl),?_⟩) ?_ ?_
  rotate_left
  ·intro w'
   go_simp
   with_reducible rfl
  rotate_left
  ·exact z3_3
  refine pure_ (i:=7) (N:=some 20) (v:=?_) (a':=?_) #[Y,Y,Y,Y,Y,Y,Y,Y,J,J,J,J,J,J,J,J,J,J,J,J,J,J,J,J,J,J,J,J] rfl rfl (any_of HT_.out z3_17) (λ_ _ _ h=>h) (Or.inl ⟨(by rfl),?_⟩) ?_ ?_
  rotate_left
  ·intro w'
   go_simp
   with_reducible rfl
  rotate_left
  ·exact z3_3
  refine pure_ (i:=8) (N:=some 21) (v:=?_) (a':=?_) #[Y,Y,Y,Y,Y,Y,Y,Y,Y,J,J,J,J,J,J,J,J,J,J,J,J,J,J,J,J,J,J,J] rfl rfl (any_of HT_.out z3_17) (λ_ _ _ h=>h) (Or.inl ⟨(by rfl),?_⟩) ?_ ?_
  rotate_left
  ·intro w'
   go_simp
   with_reducible rfl
  rotate_left
  ·exact z3_3
  refine pure_ (i:=9) (N:=some 22) (v:=?_) (a':=?_) #[Y,Y,Y,Y,Y,Y,Y,Y,Y,Y,J,J,J,J,J,J,J,J,J,J,J,J,J,J,J,J,J,J] rfl rfl (any_of HT_.out z3_17) (λ_ _ _ h=>h) (Or.inl ⟨(by rfl),?_⟩) ?_ ?_
  rotate_left
  ·intro w'
   go_simp
   with_reducible rfl
  rotate_left
  ·exact z3_3
  refine pure_ (i:=10) (N:=some 23) (v:=?_) (a':=?_) #[Y,Y,Y,Y,Y,Y,Y,Y,Y,Y,Y,J,J,J,J,J,J,J,J,J,J,J,J,J,J,J,J,J] rfl rfl (any_of HT_.out z3_17) (λ_ _ _ h=>h) (Or.inl ⟨(by rfl),?_⟩) ?_ ?_
  rotate_left
  ·intro w'
   go_simp
   with_reducible rfl
  rotate_left
  ·exact z3_3
  refine pure_ (i:=11) (N:=some 24) (v:=?_) (a':=?_) #[Y,Y,Y,Y,Y,Y,Y,Y,Y,Y,Y,Y,J,J,J,J,J,J,J,J,J,J,J,J,J,J,J,J] rfl rfl (any_of HT_.out z3_17) (λ_ _ _ h=>h) (Or.inl ⟨(by rfl),?_⟩) ?_ ?_
  rotate_left
  ·intro w'
   go_simp
   with_reducible rfl
  rotate_left
  ·exact z3_3
  refine pure_ (i:=12) (N:=some 25) (v:=?_) (a':=?_) #[Y,Y,Y,Y,Y,Y,Y,Y,Y,Y,Y,Y,Y,J,J,J,J,J,J,J,J,J,J,J,J,J,J,J] rfl rfl (any_of HT_.out z3_17) (λ_ _ _ h=>h) (Or.inl ⟨(by rfl),?_⟩) ?_ ?_
  rotate_left
  ·intro w'
   go_simp
   with_reducible rfl
  rotate_left
  ·exact z3_3
  refine pure_ (i:=13) (N:=some 26) (v:=?_) (a':=?_) #[Y,Y,Y,Y,Y,Y,Y,Y,Y,Y,Y,Y,Y,Y,J,J,J,J,J,J,J,J,J,J,J,J,J,J] rfl rfl (any_of HT_.out z3_17) (λ_ _ _ h=>h) (Or.inl ⟨(by rfl),?_⟩) ?_ ?_
  rotate_left
  ·intro w'
   go_simp
   with_reducible rfl
  rotate_left
  ·exact z3_3
  refine take_ (i:=14) (N:=some 27) (v:=?_) (a':=?_) #[Y,Y,Y,Y,Y,Y,Y,Y,Y,Y,Y,Y,Y,Y,Y,J,J,J,J,J,J,J,J,J,J,J,J,J] rfl rfl (take_ofW HT_.out HW_.out z3_17) (λ_ _ _ h=>h) (Or.inl ⟨(by rfl),?_⟩) hHeld ?_ ?_
  rotate_left
  ·rintro w' ⟨s0,s1,s2,s3,s4,s5,s6,s7⟩
   go_simp
   with_reducible rfl
  rotate_left
  ·exact z3_3
  refine one_ (i:=15) (N:=some 28) #[Y,Y,Y,Y,Y,Y,Y,Y,Y,Y,Y,Y,Y,Y,Y,Y,J,J,J,J,J,J,J,J,J,J,J,J] rfl rfl (one_of HT_.out z3_17) (by decide) (λK hK=>?_)
  refine goes_ Try.func81 z3_17 rfl #[.slice (some ad761) y763.length c0,.agg #[.int .i64 ((rd_T30 l0 x3_1).f0.f0),.int .i64 ((rd_T30 l0 x3_1).f0.f1)]] (by rfl) rfl rfl z6_5 ?_
  with_reducible refine(r05_find.calls k1 _ _ y763 ((rd_T30 l0 x3_1).f0.f0) ((rd_T30 l0 x3_1).f0.f1) true _ ?side1 ?side2 A8.out).mono ?_
  (case side1=>exact z36_10)
  (case side2=>exact HC766.out)
  rintro e w13 ⟨rfl,hb⟩
  refine ⟨_,rfl,?_⟩
  have n0_:=U (below_step z9_4 hb)
  clear HB
  have HB:=n0_
  clear n0_
  (try clear hb)
  (try clear hb2)
  (try clear hk)
  (try clear hi)
  refine hK.out _ _ ⟨((HB.out.cell (World.block_lt_of_cell? w _ hw761_0)).trans hw761_0),((HB.out.cell (World.block_lt_of_cell? w _ hw761_1)).trans hw761_1),((HB.out.cell (World.block_lt_of_cell? w _ hw761_2)).trans hw761_2),((HB.out.cell (World.block_lt_of_cell? w _ hw761_3)).trans hw761_3),((HB.out.cell (World.block_lt_of_cell? w _ hw767_0)).trans hw767_0),((HB.out.cell (World.block_lt_of_cell? w _ hw767_1)).trans hw767_1),((HB.out.cell (World.block_lt_of_cell? w _ hw767_2)).trans hw767_2),((HB.out.cell (World.block_lt_of_cell? w _ hw767_3)).trans hw767_3)⟩ (λhHeld=>?_)
  clear hK K
  refine norm_ (a':=?_) ?_ ?_
  rotate_left
  ·exact z36_12
  refine pure_ (i:=16) (N:=some 29) (v:=?_) (a':=?_) #[Y,Y,Y,Y,Y,Y,Y,Y,Y,Y,Y,Y,Y,Y,Y,Y,Y,J,J,J,J,J,J,J,J,J,J,J] rfl rfl (any_of HT_.out z3_17) (λ_ _ _ h=>h) (Or.inl ⟨(by rfl),?_⟩) ?_ ?_
  rotate_left
  ·intro w'
   go_simp
   with_reducible rfl
  rotate_left
  ·exact z3_3
  refine pure_ (i:=17) (N:=some 30) (v:=?_) (a':=?_) #[Y,Y,Y,Y,Y,Y,Y,Y,Y,Y,Y,Y,Y,Y,Y,Y,Y,Y,J,J,J,J,J,J,J,J,J,J] rfl rfl (any_of HT_.out z3_17) (λ_ _ _ h=>h) (Or.inl ⟨(by rfl),?_⟩) ?_ ?_
  rotate_left
  ·intro w'
   go_simp
   with_reducible rfl
  rotate_left
  ·exact z3_3
  refine pure_ (i:=18) (N:=some 31) (v:=undef) (a':=?_) #[Y,Y,Y,Y,Y,Y,Y,Y,Y,Y,Y,Y,Y,Y,Y,Y,Y,Y,Y,J,J,J,J,J,J,J,J,J] rfl rfl (any_of HT_.out z3_17) (λ_ _ _ h=>h) (Or.inr ⟨(by rfl),rfl⟩) ?_ ?_
  rotate_left
  ·exact z3_3
  refine pure_ (i:=19) (N:=some 32) (v:=undef) (a':=?_) #[Y,Y,Y,Y,Y,Y,Y,Y,Y,Y,Y,Y,Y,Y,Y,Y,Y,Y,Y,Y,J,J,J,J,J,J,J,J] rfl rfl (any_of HT_.out z3_17) (λ_ _ _ h=>h) (Or.inr ⟨(by rfl),rfl⟩) ?_ ?_
  rotate_left
  ·exact z3_3
  refine pure_ (i:=20) (N:=some 33) (v:=undef) (a':=?_) #[Y,Y,Y,Y,Y,Y,Y,Y,Y,Y,Y,Y,Y,Y,Y,Y,Y,Y,Y,Y,Y,J,J,J,J,J,J,J] rfl rfl (any_of HT_.out z3_17) (λ_ _ _ h=>h) (Or.inr ⟨(by rfl),rfl⟩) ?_ ?_
  rotate_left
  ·exact z3_3
  refine pure_ (i:=21) (N:=some 34) (v:=undef) (a':=?_) #[Y,Y,Y,Y,Y,Y,Y,Y,Y,Y,Y,Y,Y,Y,Y,Y,Y,Y,Y,Y,Y,Y,J,J,J,J,J,J] rfl rfl (any_of HT_.out z3_17) (λ_ _ _ h=>h) (Or.inr ⟨(by rfl),rfl⟩) ?_ ?_
  rotate_left
  ·exact z3_3
  refine pure_ (i:=22) (N:=some 35) (v:=undef) (a':=?_) #[Y,Y,Y,Y,Y,Y,Y,Y,Y,Y,Y,Y,Y,Y,Y,Y,Y,Y,Y,Y,Y,Y,Y,J,J,J,J,J] rfl rfl (any_of HT_.out z3_17) (λ_ _ _ h=>h) (Or.inr ⟨(by rfl),rfl⟩) ?_ ?_
  rotate_left
  ·exact z3_3
  refine pure_ (i:=23) (N:=some 36) (v:=undef) (a':=?_) #[Y,Y,Y,Y,Y,Y,Y,Y,Y,Y,Y,Y,Y,Y,Y,Y,Y,Y,Y,Y,Y,Y,Y,Y,J,J,J,J] rfl rfl (any_of HT_.out z3_17) (λ_ _ _ h=>h) (Or.inr ⟨(by rfl),rfl⟩) ?_ ?_
  rotate_left
  ·exact z3_3
  refine pure_ (i:=24) (N:=some 37) (v:=undef) (a':=?_) #[Y,Y,Y,Y,Y,Y,Y,Y,Y,Y,Y,Y,Y,Y,Y,Y,Y,Y,Y,Y,Y,Y,Y,Y,Y,J,J,J] rfl rfl (any_of HT_.out z3_17) (λ_ _ _ h=>h) (Or.inr ⟨(by rfl),rfl⟩) ?_ ?_
  rotate_left
  ·exact z3_3
  refine pure_ (i:=25) (N:=some 38) (v:=undef) (a':=?_) #[Y,Y,Y,Y,Y,Y,Y,Y,Y,Y,Y,Y,Y,Y,Y,Y,Y,Y,Y,Y,Y,Y,Y,Y,Y,Y,J,J] rfl rfl (any_of HT_.out z3_17) (λ_ _ _ h=>h) (Or.inr ⟨(by rfl),rfl⟩) ?_ ?_
  rotate_left
  ·exact z3_3
  refine pure_ (i:=26) (N:=some 39) (v:=undef) (a':=?_) #[Y,Y,Y,Y,Y,Y,Y,Y,Y,Y,Y,Y,Y,Y,Y,Y,Y,Y,Y,Y,Y,Y,Y,Y,Y,Y,Y,J] rfl rfl (any_of HT_.out z3_17) (λ_ _ _ h=>h) (Or.inr ⟨(by rfl),rfl⟩) ?_ ?_
  rotate_left
  ·exact z3_3
  refine pure_ (i:=27) (N:=some 40) (v:=?_) (a':=?_) #[Y,Y,Y,Y,Y,Y,Y,Y,Y,Y,Y,Y,Y,Y,Y,Y,Y,Y,Y,Y,Y,Y,Y,Y,Y,Y,Y,Y] rfl rfl (any_of HT_.out z3_17) (λ_ _ _ h=>h) (Or.inl ⟨(by rfl),?_⟩) ?_ ?_
  rotate_left
  ·intro w'
   go_simp
   with_reducible rfl
  rotate_left
  ·exact z3_3
  refine done_ (done_of HT_.out z3_17) ?_
  try go_wp2
  go_ret
  exact ⟨z9_2,z9_4⟩
 replace c9:=Bool.eq_false_iff.mpr c9
 subst c9
 have H1:((r03_Sum.f k1 ((rd_T30 l0 x3_1).f1)).bind λt770=>(if t770>=(l0.length:Int) then(some false) else(r05_Closed.l0 k1 l0 (wrap64 (x3_1+1)))))=some r:=by rw [if_neg (show ¬ (false=true) by decide)] at H;exact H
 clear H
 have H:=H1
 clear H1
 replace H:=oB_ H
 obtain ⟨t770,A140,H⟩:=H
 replace H:(if t770>=(l0.length:Int) then(some false) else(r05_Closed.l0 k1 l0 (wrap64 (x3_1+1))))=some r:=H
 have A14:=Aside0.mk A140
 clear A140
 by_cases c15:t770>=(l0.length:Int)
 ·rw [if_pos c15] at H
  have c15b0:decide ((l0.length:Int)<=t770)=true:=dT_ c15
  clear c15
  obtain rfl:=sI_ H
  try go_wp2
  have n0_:=U (below_drew1 HB.out)
  clear HB
  have HB:=n0_
  clear n0_
  have p761:0<=(x3_1:Int):=oD_ z6_1
  have q761:x3_1<(l0.length:Int):=oD_ z6_1
  obtain ⟨ad761,A761_2,c761_2,A761_3,c761_3,e761,hx761_0,hx761_1,hx761_2,hx761_3,hl761_2,hi761_2,hl761_3,hi761_3⟩:=at_T30 HR0.out x3_1 p761 q761
  have hw761_3:=hx761_3
  have hw761_2:=hx761_2
  have hw761_1:=hx761_1
  have hw761_0:=hx761_0
  cases e761
  replace hx761_0:=(HB.out.cell (World.block_lt_of_cell? w _ hx761_0)).trans hx761_0
  replace hx761_1:=(HB.out.cell (World.block_lt_of_cell? w _ hx761_1)).trans hx761_1
  replace hx761_2:=(HB.out.cell (World.block_lt_of_cell? w _ hx761_2)).trans hx761_2
  replace hx761_3:=(HB.out.cell (World.block_lt_of_cell? w _ hx761_3)).trans hx761_3
  have HR761_2:=Aside0.mk hi761_2
  have HC761_2:=Aside0.mk hl761_2
  clear hi761_2 hl761_2
  have HR761_3:=Aside0.mk hi761_3
  have HC761_3:=Aside0.mk hl761_3
  clear hi761_3 hl761_3
  replace p761:=eq_true p761
  replace q761:=eq_true q761
  have p767:0<=(x3_1:Int):=oD_ z6_1
  have q767:x3_1<(l0.length:Int):=oD_ z6_1
  obtain ⟨ad767,A767_2,c767_2,A767_3,c767_3,e767,hx767_0,hx767_1,hx767_2,hx767_3,hl767_2,hi767_2,hl767_3,hi767_3⟩:=at_T30 HR0.out x3_1 p767 q767
  have hw767_3:=hx767_3
  have hw767_2:=hx767_2
  have hw767_1:=hx767_1
  have hw767_0:=hx767_0
  obtain rfl:ad761=ad767:=(by injection e767)
  obtain ⟨rfl,rfl⟩:A761_2=A767_2/\c761_2=c767_2:=by have h_:=sI_ (hw761_2.symm.trans hw767_2);injection h_ with h1_ h2_ h3_;exact ⟨h1_,h3_⟩
  obtain ⟨rfl,rfl⟩:A761_3=A767_3/\c761_3=c767_3:=by have h_:=sI_ (hw761_3.symm.trans hw767_3);injection h_ with h1_ h2_ h3_;exact ⟨h1_,h3_⟩
  replace hx767_0:=(HB.out.cell (World.block_lt_of_cell? w _ hx767_0)).trans hx767_0
  replace hx767_1:=(HB.out.cell (World.block_lt_of_cell? w _ hx767_1)).trans hx767_1
  replace hx767_2:=(HB.out.cell (World.block_lt_of_cell? w _ hx767_2)).trans hx767_2
  replace hx767_3:=(HB.out.cell (World.block_lt_of_cell? w _ hx767_3)).trans hx767_3
  have HR767_2:=Aside0.mk hi767_2
  have HC767_2:=Aside0.mk hl767_2
  clear hi767_2 hl767_2
  have HR767_3:=Aside0.mk hi767_3
  have HC767_3:=Aside0.mk hl767_3
  clear hi767_3 hl767_3
  replace p767:=eq_true p767
  replace q767:=eq_true q767
  have p769:0<=(x3_1:Int):=oD_ z6_1
  have q769:x3_1<(l0.length:Int):=oD_ z6_1
  obtain ⟨ad769,A769_2,c769_2,A769_3,c769_3,e769,hx769_0,hx769_1,hx769_2,hx769_3,hl769_2,hi769_2,hl769_3,hi769_3⟩:=at_T30 HR0.out x3_1 p769 q769
  have hw769_3:=hx769_3
  have hw769_2:=hx769_2
  have hw769_1:=hx769_1
  have hw769_0:=hx769_0
  obtain rfl:ad761=ad769:=(by injection e769)
  obtain ⟨rfl,rfl⟩:A761_2=A769_2/\c761_2=c769_2:=by have h_:=sI_ (hw761_2.symm.trans hw769_2);injection h_ with h1_ h2_ h3_;exact ⟨h1_,h3_⟩
  obtain ⟨rfl,rfl⟩:A761_3=A769_3/\c761_3=c769_3:=by have h_:=sI_ (hw761_3.symm.trans hw769_3);injection h_ with h1_ h2_ h3_;exact ⟨h1_,h3_⟩
  replace hx769_0:=(HB.out.cell (World.block_lt_of_cell? w _ hx769_0)).trans hx769_0
  replace hx769_1:=(HB.out.cell (World.block_lt_of_cell? w _ hx769_1)).trans hx769_1
  replace hx769_2:=(HB.out.cell (World.block_lt_of_cell? w _ hx769_2)).trans hx769_2
  replace hx769_3:=(HB.out.cell (World.block_lt_of_cell? w _ hx769_3)).trans hx769_3
  have HR769_2:=Aside0.mk hi769_2
  have HC769_2:=Aside0.mk hl769_2
  clear hi769_2 hl769_2
  have HR769_3:=Aside0.mk hi769_3
  have HC769_3:=Aside0.mk hl769_3
  clear hi769_3 hl769_3
  replace p769:=eq_true p769
  replace q769:=eq_true q769
  refine start_ (n:=28) (S:=λw'=>w'.cell? (ad761.add ((x3_1).toNat*4))=some (.int .i64 ((rd_T30 l0 x3_1).f0.f0))/\w'.cell? ⟨(ad761.add ((x3_1).toNat*4)).block,(ad761.add ((x3_1).toNat*4)).off+1,none⟩=some (.int .i64 ((rd_T30 l0 x3_1).f0.f1))/\w'.cell? ⟨(ad761.add ((x3_1).toNat*4)).block,(ad761.add ((x3_1).toNat*4)).off+2,none⟩=some (.slice A761_2 ((rd_T30 l0 x3_1).f1).length c761_2)/\w'.cell? ⟨(ad761.add ((x3_1).toNat*4)).block,(ad761.add ((x3_1).toNat*4)).off+3,none⟩=some (.slice A761_3 ((rd_T30 l0 x3_1).f2).length c761_3)/\w'.cell? (ad761.add ((x3_1).toNat*4))=some (.int .i64 ((rd_T30 l0 x3_1).f0.f0))/\w'.cell? ⟨(ad761.add ((x3_1).toNat*4)).block,(ad761.add ((x3_1).toNat*4)).off+1,none⟩=some (.int .i64 ((rd_T30 l0 x3_1).f0.f1))/\w'.cell? ⟨(ad761.add ((x3_1).toNat*4)).block,(ad761.add ((x3_1).toNat*4)).off+2,none⟩=some (.slice A761_2 ((rd_T30 l0 x3_1).f1).length c761_2)/\w'.cell? ⟨(ad761.add ((x3_1).toNat*4)).block,(ad761.add ((x3_1).toNat*4)).off+3,none⟩=some (.slice A761_3 ((rd_T30 l0 x3_1).f2).length c761_3)/\w'.cell? (ad761.add ((x3_1).toNat*4))=some (.int .i64 ((rd_T30 l0 x3_1).f0.f0))/\w'.cell? ⟨(ad761.add ((x3_1).toNat*4)).block,(ad761.add ((x3_1).toNat*4)).off+1,none⟩=some (.int .i64 ((rd_T30 l0 x3_1).f0.f1))/\w'.cell? ⟨(ad761.add ((x3_1).toNat*4)).block,(ad761.add ((x3_1).toNat*4)).off+2,none⟩=some (.slice A761_2 ((rd_T30 l0 x3_1).f1).length c761_2)/\w'.cell? ⟨(ad761.add ((x3_1).toNat*4)).block,(ad761.add ((x3_1).toNat*4)).off+3,none⟩=some (.slice A761_3 ((rd_T30 l0 x3_1).f2).length c761_3)) (ds:=[]) #[J,J,J,J,J,J,J,J,J,J,J,J,J,J,J,J,J,J,J,J,J,J,J,J,J,J,J,J] z3_17 rfl rfl ⟨((HB.out.cell (World.block_lt_of_cell? w _ hw761_0)).trans hw761_0),((HB.out.cell (World.block_lt_of_cell? w _ hw761_1)).trans hw761_1),((HB.out.cell (World.block_lt_of_cell? w _ hw761_2)).trans hw761_2),((HB.out.cell (World.block_lt_of_cell? w _ hw761_3)).trans hw761_3),((HB.out.cell (World.block_lt_of_cell? w _ hw767_0)).trans hw767_0),((HB.out.cell (World.block_lt_of_cell? w _ hw767_1)).trans hw767_1),((HB.out.cell (World.block_lt_of_cell? w _ hw767_2)).trans hw767_2),((HB.out.cell (World.block_lt_of_cell? w _ hw767_3)).trans hw767_3),((HB.out.cell (World.block_lt_of_cell? w _ hw769_0)).trans hw769_0),((HB.out.cell (World.block_lt_of_cell? w _ hw769_1)).trans hw769_1),((HB.out.cell (World.block_lt_of_cell? w _ hw769_2)).trans hw769_2),((HB.out.cell (World.block_lt_of_cell? w _ hw769_3)).trans hw769_3)⟩ (λhHeld=>?_);refine with_tabW r05_Closed.tab4 r05_Closed.bits4 (λHT_ HW_=>?_)
  generalize wr.drew=w16 at HB HR761_2 HR761_3 HR767_2 HR767_3 HR769_2 HR769_3 hx761_0 hx761_1 hx761_2 hx761_3 hx767_0 hx767_1 hx767_2 hx767_3 hx769_0 hx769_1 hx769_2 hx769_3 hHeld ⊢
  refine pure_ (i:=0) (N:=some 13) (v:=?_) (a':=?_) #[Y,J,J,J,J,J,J,J,J,J,J,J,J,J,J,J,J,J,J,J,J,J,J,J,J,J,J,J] rfl rfl (any_of HT_.out z3_17) (λ_ _ _ h=>h) (Or.inl ⟨(by rfl),?_⟩) ?_ ?_
  rotate_left
  ·intro w'
   go_simp
   with_reducible rfl
  rotate_left
  ·exact z3_3
  refine pure_ (i:=1) (N:=some 14) (v:=?_) (a':=?_) #[Y,Y,J,J,J,J,J,J,J,J,J,J,J,J,J,J,J,J,J,J,J,J,J,J,J,J,J,J] rfl rfl (any_of HT_.out z3_17) (λ_ _ _ h=>h) (Or.inl ⟨(by rfl),?_⟩) ?_ ?_
  rotate_left
  ·intro w'
   go_simp
   with_reducible rfl
  rotate_left
  ·exact z3_3
  refine pure_ (i:=2) (N:=some 15) (v:=?_) (a':=?_) #[Y,Y,Y,J,J,J,J,J,J,J,J,J,J,J,J,J,J,J,J,J,J,J,J,J,J,J,J,J] rfl rfl (any_of HT_.out z3_17) (λ_ _ _ h=>h) (Or.inl ⟨(by rfl),?_⟩) ?_ ?_
  rotate_left
  ·intro w'
   go_simp
   with_reducible rfl
  rotate_left
  ·exact z3_3
  refine take_ (i:=3) (N:=some 16) (v:=?_) (a':=?_) #[Y,Y,Y,Y,J,J,J,J,J,J,J,J,J,J,J,J,J,J,J,J,J,J,J,J,J,J,J,J] rfl rfl (take_ofW HT_.out HW_.out z3_17) (λ_ _ _ h=>h) (Or.inl ⟨(by rfl),?_⟩) hHeld ?_ ?_
  rotate_left
  ·rintro w' ⟨s0,s1,s2,s3,s4,s5,s6,s7,s8,s9,s10,s11⟩
   go_simp
   with_reducible rfl
  rotate_left
  ·exact z3_3
  refine one_ (i:=4) (N:=some 17) #[Y,Y,Y,Y,Y,J,J,J,J,J,J,J,J,J,J,J,J,J,J,J,J,J,J,J,J,J,J,J] rfl rfl (one_of HT_.out z3_17) (by decide) (λK hK=>?_)
  refine goes_ Try.func17 z3_17 rfl #[.agg #[.int .i64 ((rd_T30 l0 x3_1).f0.f0),.int .i64 ((rd_T30 l0 x3_1).f0.f1),.slice A761_2 ((rd_T30 l0 x3_1).f1).length c761_2,.slice A761_3 ((rd_T30 l0 x3_1).f2).length c761_3]] (by rfl) rfl rfl z6_5 ?_
  with_reducible refine(r05_May.calls k1 ((rd_T30 l0 x3_1).f0.f0) ((rd_T30 l0 x3_1).f0.f1) _ _ ((rd_T30 l0 x3_1).f1) _ _ ((rd_T30 l0 x3_1).f2) true _ ?side1 ?side2 ?side3 ?side4 A4.out).mono ?_
  (case side1=>exact z36_5)
  (case side2=>exact HC761_2.out)
  (case side3=>exact z36_6)
  (case side4=>exact HC761_3.out)
  rintro e w17 ⟨rfl,hb⟩
  refine ⟨_,rfl,?_⟩
  have n0_:=U (below_step z9_4 hb)
  clear HB
  have HB:=n0_
  clear n0_
  (try clear hb)
  (try clear hb2)
  (try clear hk)
  (try clear hi)
  have q18:(x3_1:Int)<=((l0.length:Int):Int):=oD_ z6_1
  obtain ⟨i018,hi018,_,hsz18,_⟩:=info_parts info30
  have hroom18:l0.length<=c0:=HC0.out
  have hC18:Kd.C k30 _ (some ad761) l0.length l0:=HR0.out
  have hcut18:=cut_to (P:=Try.prog) 38 30 .i64 Try.underlying38 hi018 (some ad761) l0.length c0 x3_1 (oD_ z6_1) q18 hroom18
  have hr18:=Kd.C_take (m:=(x3_1:Int).toNat) hC18 (by omega)
  have hy18:y763.length=(x3_1:Int).toNat:=(by rw [Ny763.out,List.length_take];omega)
  rw [<-Ny763.out] at hr18
  rw [<-hy18] at hcut18
  have HR766:=Aside0.mk hr18
  have HC766:=U (show y763.length<=c0 from by omega)
  clear hr18 hC18 hroom18 hi018 hsz18
  have KY18:=Aside0.mk hy18
  clear hy18
  replace q18:=eq_true q18
  refine hK.out _ _ ⟨((HB.out.cell (World.block_lt_of_cell? w _ hw761_0)).trans hw761_0),((HB.out.cell (World.block_lt_of_cell? w _ hw761_1)).trans hw761_1),((HB.out.cell (World.block_lt_of_cell? w _ hw761_2)).trans hw761_2),((HB.out.cell (World.block_lt_of_cell? w _ hw761_3)).trans hw761_3),((HB.out.cell (World.block_lt_of_cell? w _ hw767_0)).trans hw767_0),((HB.out.cell (World.block_lt_of_cell? w _ hw767_1)).trans hw767_1),((HB.out.cell (World.block_lt_of_cell? w _ hw767_2)).trans hw767_2),((HB.out.cell (World.block_lt_of_cell? w _ hw767_3)).trans hw767_3),((HB.out.cell (World.block_lt_of_cell? w _ hw769_0)).trans hw769_0),((HB.out.cell (World.block_lt_of_cell? w _ hw769_1)).trans hw769_1),((HB.out.cell (World.block_lt_of_cell? w _ hw769_2)).trans hw769_2),((HB.out.cell (World.block_lt_of_cell? w _ hw769_3)).trans hw769_3)⟩ (λhHeld=>?_)
  clear hK K
  refine norm_ (a':=?_) ?_ ?_
  rotate_left
  ·exact z11_13
  refine pure_ (i:=5) (N:=some 18) (v:=?_) (a':=?_) #[Y,Y,Y,Y,Y,Y,J,J,J,J,J,J,J,J,J,J,J,J,J,J,J,J,J,J,J,J,J,J] rfl rfl (any_of HT_.out z3_17) (λ_ _ _ h=>h) (Or.inl ⟨(by rfl),?_⟩) ?_ ?_
  rotate_left
  ·intro w'
   go_simp
   with_reducible rfl
  rotate_left
  ·exact z3_3
  refine pure_ (i:=6) (N:=some 19) (v:=?_) (a':=?_) #[Y,Y,Y,Y,Y,Y,Y,J,J,J,J,J,J,J,J,J,J,J,J,J,J,J,J,J,J,J,J,J] rfl rfl (any_of HT_.out z3_17) (λ_ _ _ h=>h) (Or.inl ⟨(by rfl),?_⟩) ?_ ?_
  rotate_left
  ·intro w'
   go_simp
   with_reducible rfl
  rotate_left
  ·exact z3_3
  refine pure_ (i:=7) (N:=some 20) (v:=?_) (a':=?_) #[Y,Y,Y,Y,Y,Y,Y,Y,J,J,J,J,J,J,J,J,J,J,J,J,J,J,J,J,J,J,J,J] rfl rfl (any_of HT_.out z3_17) (λ_ _ _ h=>h) (Or.inl ⟨(by rfl),?_⟩) ?_ ?_
  rotate_left
  ·intro w'
   go_simp
   with_reducible rfl
  rotate_left
  ·exact z3_3
  refine pure_ (i:=8) (N:=some 21) (v:=?_) (a':=?_) #[Y,Y,Y,Y,Y,Y,Y,Y,Y,J,J,J,J,J,J,J,J,J,J,J,J,J,J,J,J,J,J,J] rfl rfl (any_of HT_.out z3_17) (λ_ _ _ h=>h) (Or.inl ⟨(by rfl),?_⟩) ?_ ?_
  rotate_left
  ·intro w'
   go_simp
   with_reducible rfl
  rotate_left
  ·exact z3_3
  refine pure_ (i:=9) (N:=some 22) (v:=?_) (a':=?_) #[Y,Y,Y,Y,Y,Y,Y,Y,Y,Y,J,J,J,J,J,J,J,J,J,J,J,J,J,J,J,J,J,J] rfl rfl (any_of HT_.out z3_17) (λ_ _ _ h=>h) (Or.inl ⟨(by rfl),?_⟩) ?_ ?_
  rotate_left
  ·intro w'
   go_simp
   with_reducible rfl
  rotate_left
  ·exact z3_3
  refine pure_ (i:=10) (N:=some 23) (v:=?_) (a':=?_) #[Y,Y,Y,Y,Y,Y,Y,Y,Y,Y,Y,J,J,J,J,J,J,J,J,J,J,J,J,J,J,J,J,J] rfl rfl (any_of HT_.out z3_17) (λ_ _ _ h=>h) (Or.inl ⟨(by rfl),?_⟩) ?_ ?_
  rotate_left
  ·intro w'
   go_simp
   with_reducible rfl
  rotate_left
  ·exact z3_3
  refine pure_ (i:=11) (N:=some 24) (v:=?_) (a':=?_) #[Y,Y,Y,Y,Y,Y,Y,Y,Y,Y,Y,Y,J,J,J,J,J,J,J,J,J,J,J,J,J,J,J,J] rfl rfl (any_of HT_.out z3_17) (λ_ _ _ h=>h) (Or.inl ⟨(by rfl),?_⟩) ?_ ?_
  rotate_left
  ·intro w'
   go_simp
   with_reducible rfl
  rotate_left
  ·exact z3_3
  refine pure_ (i:=12) (N:=some 25) (v:=?_) (a':=?_) #[Y,Y,Y,Y,Y,Y,Y,Y,Y,Y,Y,Y,Y,J,J,J,J,J,J,J,J,J,J,J,J,J,J,J] rfl rfl (any_of HT_.out z3_17) (λ_ _ _ h=>h) (Or.inl ⟨(by rfl),?_⟩) ?_ ?_
  rotate_left
  ·intro w'
   go_simp
   with_reducible rfl
  rotate_left
  ·exact z3_3
  refine pure_ (i:=13) (N:=some 26) (v:=?_) (a':=?_) #[Y,Y,Y,Y,Y,Y,Y,Y,Y,Y,Y,Y,Y,Y,J,J,J,J,J,J,J,J,J,J,J,J,J,J] rfl rfl (any_of HT_.out z3_17) (λ_ _ _ h=>h) (Or.inl ⟨(by rfl),?_⟩) ?_ ?_
  rotate_left
  ·intro w'
   go_simp
   with_reducible rfl
  rotate_left
  ·exact z3_3
  refine take_ (i:=14) (N:=some 27) (v:=?_) (a':=?_) #[Y,Y,Y,Y,Y,Y,Y,Y,Y,Y,Y,Y,Y,Y,Y,J,J,J,J,J,J,J,J,J,J,J,J,J] rfl rfl (take_ofW HT_.out HW_.out z3_17) (λ_ _ _ h=>h) (Or.inl ⟨(by rfl),?_⟩) hHeld ?_ ?_
  rotate_left
  ·rintro w' ⟨s0,s1,s2,s3,s4,s5,s6,s7,s8,s9,s10,s11⟩
   go_simp
   with_reducible rfl
  rotate_left
  ·exact z3_3
  refine one_ (i:=15) (N:=some 28) #[Y,Y,Y,Y,Y,Y,Y,Y,Y,Y,Y,Y,Y,Y,Y,Y,J,J,J,J,J,J,J,J,J,J,J,J] rfl rfl (one_of HT_.out z3_17) (by decide) (λK hK=>?_)
  refine goes_ Try.func81 z3_17 rfl #[.slice (some ad761) y763.length c0,.agg #[.int .i64 ((rd_T30 l0 x3_1).f0.f0),.int .i64 ((rd_T30 l0 x3_1).f0.f1)]] (by rfl) rfl rfl z6_5 ?_
  with_reducible refine(r05_find.calls k1 _ _ y763 ((rd_T30 l0 x3_1).f0.f0) ((rd_T30 l0 x3_1).f0.f1) false _ ?side1 ?side2 A8.out).mono ?_
  (case side1=>exact z36_10)
  (case side2=>exact HC766.out)
  rintro e w19 ⟨rfl,hb⟩
  refine ⟨_,rfl,?_⟩
  have n0_:=U (below_step z9_4 hb)
  clear HB
  have HB:=n0_
  clear n0_
  (try clear hb)
  (try clear hb2)
  (try clear hk)
  (try clear hi)
  refine hK.out _ _ ⟨((HB.out.cell (World.block_lt_of_cell? w _ hw761_0)).trans hw761_0),((HB.out.cell (World.block_lt_of_cell? w _ hw761_1)).trans hw761_1),((HB.out.cell (World.block_lt_of_cell? w _ hw761_2)).trans hw761_2),((HB.out.cell (World.block_lt_of_cell? w _ hw761_3)).trans hw761_3),((HB.out.cell (World.block_lt_of_cell? w _ hw767_0)).trans hw767_0),((HB.out.cell (World.block_lt_of_cell? w _ hw767_1)).trans hw767_1),((HB.out.cell (World.block_lt_of_cell? w _ hw767_2)).trans hw767_2),((HB.out.cell (World.block_lt_of_cell? w _ hw767_3)).trans hw767_3),((HB.out.cell (World.block_lt_of_cell? w _ hw769_0)).trans hw769_0),((HB.out.cell (World.block_lt_of_cell? w _ hw769_1)).trans hw769_1),((HB.out.cell (World.block_lt_of_cell? w _ hw769_2)).trans hw769_2),((HB.out.cell (World.block_lt_of_cell? w _ hw769_3)).trans hw769_3)⟩ (λhHeld=>?_)
  clear hK K
  refine norm_ (a':=?_) ?_ ?_
  rotate_left
  ·exact z36_12
  refine pure_ (i:=16) (N:=some 29) (v:=?_) (a':=?_) #[Y,Y,Y,Y,Y,Y,Y,Y,Y,Y,Y,Y,Y,Y,Y,Y,Y,J,J,J,J,J,J,J,J,J,J,J] rfl rfl (any_of HT_.out z3_17) (λ_ _ _ h=>h) (Or.inl ⟨(by rfl),?_⟩) ?_ ?_
  rotate_left
  ·intro w'
   go_simp
   with_reducible rfl
  rotate_left
  ·exact z3_3
  refine pure_ (i:=17) (N:=some 30) (v:=?_) (a':=?_) #[Y,Y,Y,Y,Y,Y,Y,Y,Y,Y,Y,Y,Y,Y,Y,Y,Y,Y,J,J,J,J,J,J,J,J,J,J] rfl rfl (any_of HT_.out z3_17) (λ_ _ _ h=>h) (Or.inl ⟨(by rfl),?_⟩) ?_ ?_
  rotate_left
  ·intro w'
   go_simp
   with_reducible rfl
  rotate_left
  ·exact z3_3
  refine pure_ (i:=18) (N:=some 31) (v:=?_) (a':=?_) #[Y,Y,Y,Y,Y,Y,Y,Y,Y,Y,Y,Y,Y,Y,Y,Y,Y,Y,Y,J,J,J,J,J,J,J,J,J] rfl rfl (any_of HT_.out z3_17) (λ_ _ _ h=>h) (Or.inl ⟨(by rfl),?_⟩) ?_ ?_
  rotate_left
  ·intro w'
   go_simp
   with_reducible rfl
  rotate_left
  ·exact z3_3
  refine pure_ (i:=19) (N:=some 32) (v:=?_) (a':=?_) #[Y,Y,Y,Y,Y,Y,Y,Y,Y,Y,Y,Y,Y,Y,Y,Y,Y,Y,Y,Y,J,J,J,J,J,J,J,J] rfl rfl (any_of HT_.out z3_17) (λ_ _ _ h=>h) (Or.inl ⟨(by rfl),?_⟩) ?_ ?_
  rotate_left
  ·intro w'
   go_simp
   with_reducible rfl
  rotate_left
  ·exact z3_3
  refine pure_ (i:=20) (N:=some 33) (v:=?_) (a':=?_) #[Y,Y,Y,Y,Y,Y,Y,Y,Y,Y,Y,Y,Y,Y,Y,Y,Y,Y,Y,Y,Y,J,J,J,J,J,J,J] rfl rfl (any_of HT_.out z3_17) (λ_ _ _ h=>h) (Or.inl ⟨(by rfl),?_⟩) ?_ ?_
  rotate_left
  ·intro w'
   go_simp
   with_reducible rfl
  rotate_left
  ·exact z3_3
  refine pure_ (i:=21) (N:=some 34) (v:=?_) (a':=?_) #[Y,Y,Y,Y,Y,Y,Y,Y,Y,Y,Y,Y,Y,Y,Y,Y,Y,Y,Y,Y,Y,Y,J,J,J,J,J,J] rfl rfl (any_of HT_.out z3_17) (λ_ _ _ h=>h) (Or.inl ⟨(by rfl),?_⟩) ?_ ?_
  rotate_left
  ·intro w'
   go_simp
   with_reducible rfl
  rotate_left
  ·exact z3_3
  refine pure_ (i:=24) (N:=some 37) (v:=?_) (a':=?_) #[Y,Y,Y,Y,Y,Y,Y,Y,Y,Y,Y,Y,Y,Y,Y,Y,Y,Y,Y,Y,Y,Y,J,J,Y,J,J,J] rfl rfl (any_of HT_.out z3_17) (λ_ _ _ h=>h) (Or.inl ⟨(by rfl),?_⟩) ?_ ?_
  rotate_left
  ·intro w'
   go_simp
   with_reducible rfl
  rotate_left
  ·exact z3_3
  refine pure_ (i:=25) (N:=some 38) (v:=?_) (a':=?_) #[Y,Y,Y,Y,Y,Y,Y,Y,Y,Y,Y,Y,Y,Y,Y,Y,Y,Y,Y,Y,Y,Y,J,J,Y,Y,J,J] rfl rfl (any_of HT_.out z3_17) (λ_ _ _ h=>h) (Or.inl ⟨(by rfl),?_⟩) ?_ ?_
  rotate_left
  ·intro w'
   go_simp
   with_reducible rfl
  rotate_left
  ·exact z3_3
  refine take_ (i:=22) (N:=some 35) (v:=?_) (a':=?_) #[Y,Y,Y,Y,Y,Y,Y,Y,Y,Y,Y,Y,Y,Y,Y,Y,Y,Y,Y,Y,Y,Y,Y,J,Y,Y,J,J] rfl rfl (take_ofW HT_.out HW_.out z3_17) (λ_ _ _ h=>h) (Or.inl ⟨(by rfl),?_⟩) hHeld ?_ ?_
  rotate_left
  ·rintro w' ⟨s0,s1,s2,s3,s4,s5,s6,s7,s8,s9,s10,s11⟩
   go_simp
   with_reducible rfl
  rotate_left
  ·exact z3_3
  refine one_ (i:=23) (N:=some 36) #[Y,Y,Y,Y,Y,Y,Y,Y,Y,Y,Y,Y,Y,Y,Y,Y,Y,Y,Y,Y,Y,Y,Y,Y,Y,Y,J,J] rfl rfl (one_of HT_.out z3_17) (by decide) (λK hK=>?_)
  refine goes_ Try.func82 z3_17 rfl #[.slice A761_2 ((rd_T30 l0 x3_1).f1).length c761_2] (by rfl) rfl rfl z6_5 ?_
  with_reducible refine(r03_Sum.calls k1 _ _ ((rd_T30 l0 x3_1).f1) t770 _ ?side1 ?side2 A14.out).mono ?_
  (case side1=>exact z36_13)
  (case side2=>exact HC769_2.out)
  rintro e w' ⟨rfl,⟨nd,rfl⟩⟩
  refine ⟨_,rfl,?_⟩
  refine hK.out _ _ ⟨((HB.out.cell (World.block_lt_of_cell? w _ hw761_0)).trans hw761_0),((HB.out.cell (World.block_lt_of_cell? w _ hw761_1)).trans hw761_1),((HB.out.cell (World.block_lt_of_cell? w _ hw761_2)).trans hw761_2),((HB.out.cell (World.block_lt_of_cell? w _ hw761_3)).trans hw761_3),((HB.out.cell (World.block_lt_of_cell? w _ hw767_0)).trans hw767_0),((HB.out.cell (World.block_lt_of_cell? w _ hw767_1)).trans hw767_1),((HB.out.cell (World.block_lt_of_cell? w _ hw767_2)).trans hw767_2),((HB.out.cell (World.block_lt_of_cell? w _ hw767_3)).trans hw767_3),((HB.out.cell (World.block_lt_of_cell? w _ hw769_0)).trans hw769_0),((HB.out.cell (World.block_lt_of_cell? w _ hw769_1)).trans hw769_1),((HB.out.cell (World.block_lt_of_cell? w _ hw769_2)).trans hw769_2),((HB.out.cell (World.block_lt_of_cell? w _ hw769_3)).trans hw769_3)⟩ (λhHeld=>?_)
  clear hK K
  refine norm_ (a':=?_) ?_ ?_
  rotate_left
  ·exact z36_15
  refine pure_ (i:=26) (N:=some 39) (v:=?_) (a':=?_) #[Y,Y,Y,Y,Y,Y,Y,Y,Y,Y,Y,Y,Y,Y,Y,Y,Y,Y,Y,Y,Y,Y,Y,Y,Y,Y,Y,J] rfl rfl (any_of HT_.out z3_17) (λ_ _ _ h=>h) (Or.inl ⟨(by rfl),?_⟩) ?_ ?_
  rotate_left
  ·intro w'
   go_simp
   with_reducible rfl
  rotate_left
  ·exact z3_3
  refine pure_ (i:=27) (N:=some 40) (v:=?_) (a':=?_) #[Y,Y,Y,Y,Y,Y,Y,Y,Y,Y,Y,Y,Y,Y,Y,Y,Y,Y,Y,Y,Y,Y,Y,Y,Y,Y,Y,Y] rfl rfl (any_of HT_.out z3_17) (λ_ _ _ h=>h) (Or.inl ⟨(by rfl),?_⟩) ?_ ?_
  rotate_left
  ·intro w'
   go_simp
   with_reducible rfl
  rotate_left
  ·exact z3_3
  refine done_ (done_of HT_.out z3_17) ?_
  try go_wp2
  go_ret
  exact ⟨z9_2,z9_4⟩
 rw [if_neg c15] at H
 have c15b0:decide ((l0.length:Int)<=t770)=false:=dF_ c15
 clear c15
 have H':=Aside0.mk H
 clear H
 try go_wp2
 have n0_:=U (below_drew1 HB.out)
 clear HB
 have HB:=n0_
 clear n0_
 have p761:0<=(x3_1:Int):=oD_ z6_1
 have q761:x3_1<(l0.length:Int):=oD_ z6_1
 obtain ⟨ad761,A761_2,c761_2,A761_3,c761_3,e761,hx761_0,hx761_1,hx761_2,hx761_3,hl761_2,hi761_2,hl761_3,hi761_3⟩:=at_T30 HR0.out x3_1 p761 q761
 have hw761_3:=hx761_3
 have hw761_2:=hx761_2
 have hw761_1:=hx761_1
 have hw761_0:=hx761_0
 cases e761
 replace hx761_0:=(HB.out.cell (World.block_lt_of_cell? w _ hx761_0)).trans hx761_0
 replace hx761_1:=(HB.out.cell (World.block_lt_of_cell? w _ hx761_1)).trans hx761_1
 replace hx761_2:=(HB.out.cell (World.block_lt_of_cell? w _ hx761_2)).trans hx761_2
 replace hx761_3:=(HB.out.cell (World.block_lt_of_cell? w _ hx761_3)).trans hx761_3
 have HR761_2:=Aside0.mk hi761_2
 have HC761_2:=Aside0.mk hl761_2
 clear hi761_2 hl761_2
 have HR761_3:=Aside0.mk hi761_3
 have HC761_3:=Aside0.mk hl761_3
 clear hi761_3 hl761_3
 replace p761:=eq_true p761
 replace q761:=eq_true q761
 have p767:0<=(x3_1:Int):=oD_ z6_1
 have q767:x3_1<(l0.length:Int):=oD_ z6_1
 obtain ⟨ad767,A767_2,c767_2,A767_3,c767_3,e767,hx767_0,hx767_1,hx767_2,hx767_3,hl767_2,hi767_2,hl767_3,hi767_3⟩:=at_T30 HR0.out x3_1 p767 q767
 have hw767_3:=hx767_3
 have hw767_2:=hx767_2
 have hw767_1:=hx767_1
 have hw767_0:=hx767_0
 obtain rfl:ad761=ad767:=(by injection e767)
 obtain ⟨rfl,rfl⟩:A761_2=A767_2/\c761_2=c767_2:=by have h_:=sI_ (hw761_2.symm.trans hw767_2);injection h_ with h1_ h2_ h3_;exact ⟨h1_,h3_⟩
 obtain ⟨rfl,rfl⟩:A761_3=A767_3/\c761_3=c767_3:=by have h_:=sI_ (hw761_3.symm.trans hw767_3);injection h_ with h1_ h2_ h3_;exact ⟨h1_,h3_⟩
 replace hx767_0:=(HB.out.cell (World.block_lt_of_cell? w _ hx767_0)).trans hx767_0
 replace hx767_1:=(HB.out.cell (World.block_lt_of_cell? w _ hx767_1)).trans hx767_1
 replace hx767_2:=(HB.out.cell (World.block_lt_of_cell? w _ hx767_2)).trans hx767_2
 replace hx767_3:=(HB.out.cell (World.block_lt_of_cell? w _ hx767_3)).trans hx767_3
 have HR767_2:=Aside0.mk hi767_2
 have HC767_2:=Aside0.mk hl767_2
 clear hi767_2 hl767_2
 have HR767_3:=Aside0.mk hi767_3
 have HC767_3:=Aside0.mk hl767_3
 clear hi767_3 hl767_3
 replace p767:=eq_true p767
 replace q767:=eq_true q767
 have p769:0<=(x3_1:Int):=oD_ z6_1
 have q769:x3_1<(l0.length:Int):=oD_ z6_1
 obtain ⟨ad769,A769_2,c769_2,A769_3,c769_3,e769,hx769_0,hx769_1,hx769_2,hx769_3,hl769_2,hi769_2,hl769_3,hi769_3⟩:=at_T30 HR0.out x3_1 p769 q769
 have hw769_3:=hx769_3
 have hw769_2:=hx769_2
 have hw769_1:=hx769_1
 have hw769_0:=hx769_0
 obtain rfl:ad761=ad769:=(by injection e769)
 obtain ⟨rfl,rfl⟩:A761_2=A769_2/\c761_2=c769_2:=by have h_:=sI_ (hw761_2.symm.trans hw769_2);injection h_ with h1_ h2_ h3_;exact ⟨h1_,h3_⟩
 obtain ⟨rfl,rfl⟩:A761_3=A769_3/\c761_3=c769_3:=by have h_:=sI_ (hw761_3.symm.trans hw769_3);injection h_ with h1_ h2_ h3_;exact ⟨h1_,h3_⟩
 replace hx769_0:=(HB.out.cell (World.block_lt_of_cell? w _ hx769_0)).trans hx769_0
 replace hx769_1:=(HB.out.cell (World.block_lt_of_cell? w _ hx769_1)).trans hx769_1
 replace hx769_2:=(HB.out.cell (World.block_lt_of_cell? w _ hx769_2)).trans hx769_2
 replace hx769_3:=(HB.out.cell (World.block_lt_of_cell? w _ hx769_3)).trans hx769_3
 have HR769_2:=Aside0.mk hi769_2
 have HC769_2:=Aside0.mk hl769_2
 clear hi769_2 hl769_2
 have HR769_3:=Aside0.mk hi769_3
 have HC769_3:=Aside0.mk hl769_3
 clear hi769_3 hl769_3
 replace p769:=eq_true p769
 replace q769:=eq_true q769
 refine start_ (n:=28) (S:=λw'=>w'.cell? (ad761.add ((x3_1).toNat*4))=some (.int .i64 ((rd_T30 l0 x3_1).f0.f0))/\w'.cell? ⟨(ad761.add ((x3_1).toNat*4)).block,(ad761.add ((x3_1).toNat*4)).off+1,none⟩=some (.int .i64 ((rd_T30 l0 x3_1).f0.f1))/\w'.cell? ⟨(ad761.add ((x3_1).toNat*4)).block,(ad761.add ((x3_1).toNat*4)).off+2,none⟩=some (.slice A761_2 ((rd_T30 l0 x3_1).f1).length c761_2)/\w'.cell? ⟨(ad761.add ((x3_1).toNat*4)).block,(ad761.add ((x3_1).toNat*4)).off+3,none⟩=some (.slice A761_3 ((rd_T30 l0 x3_1).f2).length c761_3)/\w'.cell? (ad761.add ((x3_1).toNat*4))=some (.int .i64 ((rd_T30 l0 x3_1).f0.f0))/\w'.cell? ⟨(ad761.add ((x3_1).toNat*4)).block,(ad761.add ((x3_1).toNat*4)).off+1,none⟩=some (.int .i64 ((rd_T30 l0 x3_1).f0.f1))/\w'.cell? ⟨(ad761.add ((x3_1).toNat*4)).block,(ad761.add ((x3_1).toNat*4)).off+2,none⟩=some (.slice A761_2 ((rd_T30 l0 x3_1).f1).length c761_2)/\w'.cell? ⟨(ad761.add ((x3_1).toNat*4)).block,(ad761.add ((x3_1).toNat*4)).off+3,none⟩=some (.slice A761_3 ((rd_T30 l0 x3_1).f2).length c761_3)/\w'.cell? (ad761.add ((x3_1).toNat*4))=some (.int .i64 ((rd_T30 l0 x3_1).f0.f0))/\w'.cell? ⟨(ad761.add ((x3_1).toNat*4)).block,(ad761.add ((x3_1).toNat*4)).off+1,none⟩=some (.int .i64 ((rd_T30 l0 x3_1).f0.f1))/\w'.cell? ⟨(ad761.add ((x3_1).toNat*4)).block,(ad761.add ((x3_1).toNat*4)).off+2,none⟩=some (.slice A761_2 ((rd_T30 l0 x3_1).f1).length c761_2)/\w'.cell? ⟨(ad761.add ((x3_1).toNat*4)).block,(ad761.add ((x3_1).toNat*4)).off+3,none⟩=some (.slice A761_3 ((rd_T30 l0 x3_1).f2).length c761_3)) (ds:=[]) #[J,J,J,J,J,J,J,J,J,J,J,J,J,J,J,J,J,J,J,J,J,J,J,J,J,J,J,J] z3_17 rfl rfl ⟨((HB.out.cell (World.block_lt_of_cell? w _ hw761_0)).trans hw761_0),((HB.out.cell (World.block_lt_of_cell? w _ hw761_1)).trans hw761_1),((HB.out.cell (World.block_lt_of_cell? w _ hw761_2)).trans hw761_2),((HB.out.cell (World.block_lt_of_cell? w _ hw761_3)).trans hw761_3),((HB.out.cell (World.block_lt_of_cell? w _ hw767_0)).trans hw767_0),((HB.out.cell (World.block_lt_of_cell? w _ hw767_1)).trans hw767_1),((HB.out.cell (World.block_lt_of_cell? w _ hw767_2)).trans hw767_2),((HB.out.cell (World.block_lt_of_cell? w _ hw767_3)).trans hw767_3),((HB.out.cell (World.block_lt_of_cell? w _ hw769_0)).trans hw769_0),((HB.out.cell (World.block_lt_of_cell? w _ hw769_1)).trans hw769_1),((HB.out.cell (World.block_lt_of_cell? w _ hw769_2)).trans hw769_2),((HB.out.cell (World.block_lt_of_cell? w _ hw769_3)).trans hw769_3)⟩ (λhHeld=>?_);refine with_tabW r05_Closed.tab4 r05_Closed.bits4 (λHT_ HW_=>?_)
 generalize wr.drew=w20 at HB HR761_2 HR761_3 HR767_2 HR767_3 HR769_2 HR769_3 hx761_0 hx761_1 hx761_2 hx761_3 hx767_0 hx767_1 hx767_2 hx767_3 hx769_0 hx769_1 hx769_2 hx769_3 hHeld ⊢
 refine pure_ (i:=0) (N:=some 13) (v:=?_) (a':=?_) #[Y,J,J,J,J,J,J,J,J,J,J,J,J,J,J,J,J,J,J,J,J,J,J,J,J,J,J,J] rfl rfl (any_of HT_.out z3_17) (λ_ _ _ h=>h) (Or.inl ⟨(by rfl),?_⟩) ?_ ?_
 rotate_left
 ·intro w'
  go_simp
  with_reducible rfl
 rotate_left
 ·exact z3_3
 refine pure_ (i:=1) (N:=some 14) (v:=?_) (a':=?_) #[Y,Y,J,J,J,J,J,J,J,J,J,J,J,J,J,J,J,J,J,J,J,J,J,J,J,J,J,J] rfl rfl (any_of HT_.out z3_17) (λ_ _ _ h=>h) (Or.inl ⟨(by rfl),?_⟩) ?_ ?_
 rotate_left
 ·intro w'
  go_simp
  with_reducible rfl
 rotate_left
 ·exact z3_3
 refine pure_ (i:=2) (N:=some 15) (v:=?_) (a':=?_) #[Y,Y,Y,J,J,J,J,J,J,J,J,J,J,J,J,J,J,J,J,J,J,J,J,J,J,J,J,J] rfl rfl (any_of HT_.out z3_17) (λ_ _ _ h=>h) (Or.inl ⟨(by rfl),?_⟩) ?_ ?_
 rotate_left
 ·intro w'
  go_simp
  with_reducible rfl
 rotate_left
 ·exact z3_3
 refine take_ (i:=3) (N:=some 16) (v:=?_) (a':=?_) #[Y,Y,Y,Y,J,J,J,J,J,J,J,J,J,J,J,J,J,J,J,J,J,J,J,J,J,J,J,J] rfl rfl (take_ofW HT_.out HW_.out z3_17) (λ_ _ _ h=>h) (Or.inl ⟨(by rfl),?_⟩) hHeld ?_ ?_
 rotate_left
 ·rintro w' ⟨s0,s1,s2,s3,s4,s5,s6,s7,s8,s9,s10,s11⟩
  go_simp
  with_reducible rfl
 rotate_left
 ·exact z3_3
 refine one_ (i:=4) (N:=some 17) #[Y,Y,Y,Y,Y,J,J,J,J,J,J,J,J,J,J,J,J,J,J,J,J,J,J,J,J,J,J,J] rfl rfl (one_of HT_.out z3_17) (by decide) (λK hK=>?_)
 refine goes_ Try.func17 z3_17 rfl #[.agg #[.int .i64 ((rd_T30 l0 x3_1).f0.f0),.int .i64 ((rd_T30 l0 x3_1).f0.f1),.slice A761_2 ((rd_T30 l0 x3_1).f1).length c761_2,.slice A761_3 ((rd_T30 l0 x3_1).f2).length c761_3]] (by rfl) rfl rfl z6_5 ?_
 with_reducible refine(r05_May.calls k1 ((rd_T30 l0 x3_1).f0.f0) ((rd_T30 l0 x3_1).f0.f1) _ _ ((rd_T30 l0 x3_1).f1) _ _ ((rd_T30 l0 x3_1).f2) true _ ?side1 ?side2 ?side3 ?side4 A4.out).mono ?_
 (case side1=>exact z36_5)
 (case side2=>exact HC761_2.out)
 (case side3=>exact z36_6)
 (case side4=>exact HC761_3.out)
 rintro e w21 ⟨rfl,hb⟩
 refine ⟨_,rfl,?_⟩
 have n0_:=U (below_step z9_4 hb)
 clear HB
 have HB:=n0_
 clear n0_
 (try clear hb)
 (try clear hb2)
 (try clear hk)
 (try clear hi)
 have q22:(x3_1:Int)<=((l0.length:Int):Int):=oD_ z6_1
 obtain ⟨i022,hi022,_,hsz22,_⟩:=info_parts info30
 have hroom22:l0.length<=c0:=HC0.out
 have hC22:Kd.C k30 _ (some ad761) l0.length l0:=HR0.out
 have hcut22:=cut_to (P:=Try.prog) 38 30 .i64 Try.underlying38 hi022 (some ad761) l0.length c0 x3_1 (oD_ z6_1) q22 hroom22
 have hr22:=Kd.C_take (m:=(x3_1:Int).toNat) hC22 (by omega)
 have hy22:y763.length=(x3_1:Int).toNat:=(by rw [Ny763.out,List.length_take];omega)
 rw [<-Ny763.out] at hr22
 rw [<-hy22] at hcut22
 have HR766:=Aside0.mk hr22
 have HC766:=U (show y763.length<=c0 from by omega)
 clear hr22 hC22 hroom22 hi022 hsz22
 have KY22:=Aside0.mk hy22
 clear hy22
 replace q22:=eq_true q22
 refine hK.out _ _ ⟨((HB.out.cell (World.block_lt_of_cell? w _ hw761_0)).trans hw761_0),((HB.out.cell (World.block_lt_of_cell? w _ hw761_1)).trans hw761_1),((HB.out.cell (World.block_lt_of_cell? w _ hw761_2)).trans hw761_2),((HB.out.cell (World.block_lt_of_cell? w _ hw761_3)).trans hw761_3),((HB.out.cell (World.block_lt_of_cell? w _ hw767_0)).trans hw767_0),((HB.out.cell (World.block_lt_of_cell? w _ hw767_1)).trans hw767_1),((HB.out.cell (World.block_lt_of_cell? w _ hw767_2)).trans hw767_2),((HB.out.cell (World.block_lt_of_cell? w _ hw767_3)).trans hw767_3),((HB.out.cell (World.block_lt_of_cell? w _ hw769_0)).trans hw769_0),((HB.out.cell (World.block_lt_of_cell? w _ hw769_1)).trans hw769_1),((HB.out.cell (World.block_lt_of_cell? w _ hw769_2)).trans hw769_2),((HB.out.cell (World.block_lt_of_cell? w _ hw769_3)).trans hw769_3)⟩ (λhHeld=>?_)
 clear hK K
 refine norm_ (a':=?_) ?_ ?_
 rotate_left
 ·exact z11_13
 refine pure_ (i:=5) (N:=some 18) (v:=?_) (a':=?_) #[Y,Y,Y,Y,Y,Y,J,J,J,J,J,J,J,J,J,J,J,J,J,J,J,J,J,J,J,J,J,J] rfl rfl (any_of HT_.out z3_17) (λ_ _ _ h=>h) (Or.inl ⟨(by rfl),?_⟩) ?_ ?_
 rotate_left
 ·intro w'
  go_simp
  with_reducible rfl
 rotate_left
 ·exact z3_3
 refine pure_ (i:=6) (N:=some 19) (v:=?_) (a':=?_) #[Y,Y,Y,Y,Y,Y,Y,J,J,J,J,J,J,J,J,J,J,J,J,J,J,J,J,J,J,J,J,J] rfl rfl (any_of HT_.out z3_17) (λ_ _ _ h=>h) (Or.inl ⟨(by rfl),?_⟩) ?_ ?_
 rotate_left
 ·intro w'
  go_simp
  with_reducible rfl
 rotate_left
 ·exact z3_3
 refine pure_ (i:=7) (N:=some 20) (v:=?_) (a':=?_) #[Y,Y,Y,Y,Y,Y,Y,Y,J,J,J,J,J,J,J,J,J,J,J,J,J,J,J,J,J,J,J,J] rfl rfl (any_of HT_.out z3_17) (λ_ _ _ h=>h) (Or.inl ⟨(by rfl),?_⟩) ?_ ?_
 rotate_left
 ·intro w'
  go_simp
  with_reducible rfl
 rotate_left
 ·exact z3_3
 refine pure_ (i:=8) (N:=some 21) (v:=?_) (a':=?_) #[Y,Y,Y,Y,Y,Y,Y,Y,Y,J,J,J,J,J,J,J,J,J,J,J,J,J,J,J,J,J,J,J] rfl rfl (any_of HT_.out z3_17) (λ_ _ _ h=>h) (Or.inl ⟨(by rfl),?_⟩) ?_ ?_
 rotate_left
 ·intro w'
  go_simp
  with_reducible rfl
 rotate_left
 ·exact z3_3
 refine pure_ (i:=9) (N:=some 22) (v:=?_) (a':=?_) #[Y,Y,Y,Y,Y,Y,Y,Y,Y,Y,J,J,J,J,J,J,J,J,J,J,J,J,J,J,J,J,J,J] rfl rfl (any_of HT_.out z3_17) (λ_ _ _ h=>h) (Or.inl ⟨(by rfl),?_⟩) ?_ ?_
 rotate_left
 ·intro w'
  go_simp
  with_reducible rfl
 rotate_left
 ·exact z3_3
 refine pure_ (i:=10) (N:=some 23) (v:=?_) (a':=?_) #[Y,Y,Y,Y,Y,Y,Y,Y,Y,Y,Y,J,J,J,J,J,J,J,J,J,J,J,J,J,J,J,J,J] rfl rfl (any_of HT_.out z3_17) (λ_ _ _ h=>h) (Or.inl ⟨(by rfl),?_⟩) ?_ ?_
 rotate_left
 ·intro w'
  go_simp
  with_reducible rfl
 rotate_left
 ·exact z3_3
 refine pure_ (i:=11) (N:=some 24) (v:=?_) (a':=?_) #[Y,Y,Y,Y,Y,Y,Y,Y,Y,Y,Y,Y,J,J,J,J,J,J,J,J,J,J,J,J,J,J,J,J] rfl rfl (any_of HT_.out z3_17) (λ_ _ _ h=>h) (Or.inl ⟨(by rfl),?_⟩) ?_ ?_
 rotate_left
 ·intro w'
  go_simp
  with_reducible rfl
 rotate_left
 ·exact z3_3
 refine pure_ (i:=12) (N:=some 25) (v:=?_) (a':=?_) #[Y,Y,Y,Y,Y,Y,Y,Y,Y,Y,Y,Y,Y,J,J,J,J,J,J,J,J,J,J,J,J,J,J,J] rfl rfl (any_of HT_.out z3_17) (λ_ _ _ h=>h) (Or.inl ⟨(by rfl),?_⟩) ?_ ?_
 rotate_left
 ·intro w'
  go_simp
  with_reducible rfl
 rotate_left
 ·exact z3_3
 refine pure_ (i:=13) (N:=some 26) (v:=?_) (a':=?_) #[Y,Y,Y,Y,Y,Y,Y,Y,Y,Y,Y,Y,Y,Y,J,J,J,J,J,J,J,J,J,J,J,J,J,J] rfl rfl (any_of HT_.out z3_17) (λ_ _ _ h=>h) (Or.inl ⟨(by rfl),?_⟩) ?_ ?_
 rotate_left
 ·intro w'
  go_simp
  with_reducible rfl
 rotate_left
 ·exact z3_3
 refine take_ (i:=14) (N:=some 27) (v:=?_) (a':=?_) #[Y,Y,Y,Y,Y,Y,Y,Y,Y,Y,Y,Y,Y,Y,Y,J,J,J,J,J,J,J,J,J,J,J,J,J] rfl rfl (take_ofW HT_.out HW_.out z3_17) (λ_ _ _ h=>h) (Or.inl ⟨(by rfl),?_⟩) hHeld ?_ ?_
 rotate_left
 ·rintro w' ⟨s0,s1,s2,s3,s4,s5,s6,s7,s8,s9,s10,s11⟩
  go_simp
  with_reducible rfl
 rotate_left
 ·exact z3_3
 refine one_ (i:=15) (N:=some 28) #[Y,Y,Y,Y,Y,Y,Y,Y,Y,Y,Y,Y,Y,Y,Y,Y,J,J,J,J,J,J,J,J,J,J,J,J] rfl rfl (one_of HT_.out z3_17) (by decide) (λK hK=>?_)
 refine goes_ Try.func81 z3_17 rfl #[.slice (some ad761) y763.length c0,.agg #[.int .i64 ((rd_T30 l0 x3_1).f0.f0),.int .i64 ((rd_T30 l0 x3_1).f0.f1)]] (by rfl) rfl rfl z6_5 ?_
 with_reducible refine(r05_find.calls k1 _ _ y763 ((rd_T30 l0 x3_1).f0.f0) ((rd_T30 l0 x3_1).f0.f1) false _ ?side1 ?side2 A8.out).mono ?_
 (case side1=>exact z36_10)
 (case side2=>exact HC766.out)
 rintro e w23 ⟨rfl,hb⟩
 refine ⟨_,rfl,?_⟩
 have n0_:=U (below_step z9_4 hb)
 clear HB
 have HB:=n0_
 clear n0_
 (try clear hb)
 (try clear hb2)
 (try clear hk)
 (try clear hi)
 refine hK.out _ _ ⟨((HB.out.cell (World.block_lt_of_cell? w _ hw761_0)).trans hw761_0),((HB.out.cell (World.block_lt_of_cell? w _ hw761_1)).trans hw761_1),((HB.out.cell (World.block_lt_of_cell? w _ hw761_2)).trans hw761_2),((HB.out.cell (World.block_lt_of_cell? w _ hw761_3)).trans hw761_3),((HB.out.cell (World.block_lt_of_cell? w _ hw767_0)).trans hw767_0),((HB.out.cell (World.block_lt_of_cell? w _ hw767_1)).trans hw767_1),((HB.out.cell (World.block_lt_of_cell? w _ hw767_2)).trans hw767_2),((HB.out.cell (World.block_lt_of_cell? w _ hw767_3)).trans hw767_3),((HB.out.cell (World.block_lt_of_cell? w _ hw769_0)).trans hw769_0),((HB.out.cell (World.block_lt_of_cell? w _ hw769_1)).trans hw769_1),((HB.out.cell (World.block_lt_of_cell? w _ hw769_2)).trans hw769_2),((HB.out.cell (World.block_lt_of_cell? w _ hw769_3)).trans hw769_3)⟩ (λhHeld=>?_)
 clear hK K
 refine norm_ (a':=?_) ?_ ?_
 rotate_left
 ·exact z36_12
 refine pure_ (i:=16) (N:=some 29) (v:=?_) (a':=?_) #[Y,Y,Y,Y,Y,Y,Y,Y,Y,Y,Y,Y,Y,Y,Y,Y,Y,J,J,J,J,J,J,J,J,J,J,J] rfl rfl (any_of HT_.out z3_17) (λ_ _ _ h=>h) (Or.inl ⟨(by rfl),?_⟩) ?_ ?_
 rotate_left
 ·intro w'
  go_simp
  with_reducible rfl
 rotate_left
 ·exact z3_3
 refine pure_ (i:=17) (N:=some 30) (v:=?_) (a':=?_) #[Y,Y,Y,Y,Y,Y,Y,Y,Y,Y,Y,Y,Y,Y,Y,Y,Y,Y,J,J,J,J,J,J,J,J,J,J] rfl rfl (any_of HT_.out z3_17) (λ_ _ _ h=>h) (Or.inl ⟨(by rfl),?_⟩) ?_ ?_
 rotate_left
 ·intro w'
  go_simp
  with_reducible rfl
 rotate_left
 ·exact z3_3
 refine pure_ (i:=18) (N:=some 31) (v:=?_) (a':=?_) #[Y,Y,Y,Y,Y,Y,Y,Y,Y,Y,Y,Y,Y,Y,Y,Y,Y,Y,Y,J,J,J,J,J,J,J,J,J] rfl rfl (any_of HT_.out z3_17) (λ_ _ _ h=>h) (Or.inl ⟨(by rfl),?_⟩) ?_ ?_
 rotate_left
 ·intro w'
  go_simp
  with_reducible rfl
 rotate_left
 ·exact z3_3
 refine pure_ (i:=19) (N:=some 32) (v:=?_) (a':=?_) #[Y,Y,Y,Y,Y,Y,Y,Y,Y,Y,Y,Y,Y,Y,Y,Y,Y,Y,Y,Y,J,J,J,J,J,J,J,J] rfl rfl (any_of HT_.out z3_17) (λ_ _ _ h=>h) (Or.inl ⟨(by rfl),?_⟩) ?_ ?_
 rotate_left
 ·intro w'
  go_simp
  with_reducible rfl
 rotate_left
 ·exact z3_3
 refine pure_ (i:=20) (N:=some 33) (v:=?_) (a':=?_) #[Y,Y,Y,Y,Y,Y,Y,Y,Y,Y,Y,Y,Y,Y,Y,Y,Y,Y,Y,Y,Y,J,J,J,J,J,J,J] rfl rfl (any_of HT_.out z3_17) (λ_ _ _ h=>h) (Or.inl ⟨(by rfl),?_⟩) ?_ ?_
 rotate_left
 ·intro w'
  go_simp
  with_reducible rfl
 rotate_left
 ·exact z3_3
 refine pure_ (i:=21) (N:=some 34) (v:=?_) (a':=?_) #[Y,Y,Y,Y,Y,Y,Y,Y,Y,Y,Y,Y,Y,Y,Y,Y,Y,Y,Y,Y,Y,Y,J,J,J,J,J,J] rfl rfl (any_of HT_.out z3_17) (λ_ _ _ h=>h) (Or.inl ⟨(by rfl),?_⟩) ?_ ?_
 rotate_left
 ·intro w'
  go_simp
  with_reducible rfl
 rotate_left
 ·exact z3_3
 refine pure_ (i:=24) (N:=some 37) (v:=?_) (a':=?_) #[Y,Y,Y,Y,Y,Y,Y,Y,Y,Y,Y,Y,Y,Y,Y,Y,Y,Y,Y,Y,Y,Y,J,J,Y,J,J,J] rfl rfl (any_of HT_.out z3_17) (λ_ _ _ h=>h) (Or.inl ⟨(by rfl),?_⟩) ?_ ?_
 rotate_left
 ·intro w'
  go_simp
  with_reducible rfl
 rotate_left
 ·exact z3_3
 refine pure_ (i:=25) (N:=some 38) (v:=?_) (a':=?_) #[Y,Y,Y,Y,Y,Y,Y,Y,Y,Y,Y,Y,Y,Y,Y,Y,Y,Y,Y,Y,Y,Y,J,J,Y,Y,J,J] rfl rfl (any_of HT_.out z3_17) (λ_ _ _ h=>h) (Or.inl ⟨(by rfl),?_⟩) ?_ ?_
 rotate_left
 ·intro w'
  go_simp
  with_reducible rfl
 rotate_left
 ·exact z3_3
 refine take_ (i:=22) (N:=some 35) (v:=?_) (a':=?_) #[Y,Y,Y,Y,Y,Y,Y,Y,Y,Y,Y,Y,Y,Y,Y,Y,Y,Y,Y,Y,Y,Y,Y,J,Y,Y,J,J] rfl rfl (take_ofW HT_.out HW_.out z3_17) (λ_ _ _ h=>h) (Or.inl ⟨(by rfl),?_⟩) hHeld ?_ ?_
 rotate_left
 ·rintro w' ⟨s0,s1,s2,s3,s4,s5,s6,s7,s8,s9,s10,s11⟩
  go_simp
  with_reducible rfl
 rotate_left
 ·exact z3_3
 refine one_ (i:=23) (N:=some 36) #[Y,Y,Y,Y,Y,Y,Y,Y,Y,Y,Y,Y,Y,Y,Y,Y,Y,Y,Y,Y,Y,Y,Y,Y,Y,Y,J,J] rfl rfl (one_of HT_.out z3_17) (by decide) (λK hK=>?_)
 refine goes_ Try.func82 z3_17 rfl #[.slice A761_2 ((rd_T30 l0 x3_1).f1).length c761_2] (by rfl) rfl rfl z6_5 ?_
 with_reducible refine(r03_Sum.calls k1 _ _ ((rd_T30 l0 x3_1).f1) t770 _ ?side1 ?side2 A14.out).mono ?_
 (case side1=>exact z36_13)
 (case side2=>exact HC769_2.out)
 rintro e w' ⟨rfl,⟨nd,rfl⟩⟩
 refine ⟨_,rfl,?_⟩
 refine hK.out _ _ ⟨((HB.out.cell (World.block_lt_of_cell? w _ hw761_0)).trans hw761_0),((HB.out.cell (World.block_lt_of_cell? w _ hw761_1)).trans hw761_1),((HB.out.cell (World.block_lt_of_cell? w _ hw761_2)).trans hw761_2),((HB.out.cell (World.block_lt_of_cell? w _ hw761_3)).trans hw761_3),((HB.out.cell (World.block_lt_of_cell? w _ hw767_0)).trans hw767_0),((HB.out.cell (World.block_lt_of_cell? w _ hw767_1)).trans hw767_1),((HB.out.cell (World.block_lt_of_cell? w _ hw767_2)).trans hw767_2),((HB.out.cell (World.block_lt_of_cell? w _ hw767_3)).trans hw767_3),((HB.out.cell (World.block_lt_of_cell? w _ hw769_0)).trans hw769_0),((HB.out.cell (World.block_lt_of_cell? w _ hw769_1)).trans hw769_1),((HB.out.cell (World.block_lt_of_cell? w _ hw769_2)).trans hw769_2),((HB.out.cell (World.block_lt_of_cell? w _ hw769_3)).trans hw769_3)⟩ (λhHeld=>?_)
 clear hK K
 refine norm_ (a':=?_) ?_ ?_
 rotate_left
 ·exact z36_15
 refine pure_ (i:=26) (N:=some 39) (v:=?_) (a':=?_) #[Y,Y,Y,Y,Y,Y,Y,Y,Y,Y,Y,Y,Y,Y,Y,Y,Y,Y,Y,Y,Y,Y,Y,Y,Y,Y,Y,J] rfl rfl (any_of HT_.out z3_17) (λ_ _ _ h=>h) (Or.inl ⟨(by rfl),?_⟩) ?_ ?_
 rotate_left
 ·intro w'
  go_simp
  with_reducible rfl
 rotate_left
 ·exact z3_3
 refine pure_ (i:=27) (N:=some 40) (v:=?_) (a':=?_) #[Y,Y,Y,Y,Y,Y,Y,Y,Y,Y,Y,Y,Y,Y,Y,Y,Y,Y,Y,Y,Y,Y,Y,Y,Y,Y,Y,Y] rfl rfl (any_of HT_.out z3_17) (λ_ _ _ h=>h) (Or.inl ⟨(by rfl),?_⟩) ?_ ?_
 rotate_left
 ·intro w'
  go_simp
  with_reducible rfl
 rotate_left
 ·exact z3_3
 refine done_ (done_of HT_.out z3_17) ?_
 try go_wp2
 go_roundg k1
 case measure=>have:=HK1.out;omega
 case rel=>exact ⟨(wrap64 (x3_1+1)),z9_3,H',⟨(by have:=HK1.out;omega)⟩,⟨z9_4⟩⟩
end Go.Proofs.Ytgocnchjpecafaa.PEv
