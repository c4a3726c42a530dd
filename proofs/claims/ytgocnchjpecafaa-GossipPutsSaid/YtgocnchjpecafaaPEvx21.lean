import Derived.Test.YtgocnchjpecafaaPEvx2
/- a part -/
namespace Go.Proofs.Ytgocnchjpecafaa.PEv
open Go.RowKit Go.Proofs.YtgocnchjpecafaaW.PrintWords Go.Proofs.YtgocnchjpecafaaW.PrintLast Go.Proofs.YtgocnchjpecafaaW.PrintMore
attribute [local go_sem] max2_int min2_int max_two min_two max_three min_three max_four min_four
set_option linter.unusedVariables false
set_option linter.unusedSimpArgs false
attribute [local go_sem high] eqA25 eqA48
set_option maxHeartbeats 8000000
set_option maxRecDepth 100000
theorem z21_0 {P:Prop} (h:P:=by repeat(first|(with_reducible first|exact HB.out|apply below_alloc|apply pw_below_drewN|apply below_drew1|refine below_set ?_ GE464.out)|exact HB.out)):P:=h
theorem z21_1 {P:Prop} (h:P:=by repeat(first|(with_reducible first|exact HB.out|apply below_alloc|apply pw_below_drewN|apply below_drew1)|exact HB.out)):P:=h
theorem z21_2 {P:Prop} (h:P:=by(with_reducible repeat(first|refine blk_drewN ?_ _|refine blk_drew ?_|refine blk_alloc ?_ _));exact BK464.out):P:=h
theorem z21_3 {P:Prop} (h:P:=by repeat(first|(with_reducible first|exact HB.out|apply below_alloc|apply pw_below_drewN|apply below_drew1|refine below_set ?_ GE464.out|refine below_set ?_ GE465.out)|exact HB.out)):P:=h
theorem z21_4 {P:Prop} (h:P:=by first|(with_reducible assumption)|assumption):P:=h
theorem z21_5 {P:Prop} (h:P:=by repeat(first|exact Drawn0.refl _|apply Drawn0.step)):P:=h
theorem z21_6 {P:Prop} (h:P:=by first|rfl|(simp;done)|(simp [*];done)):P:=h
theorem z21_7 {P:Prop} (h:P:=by first|(go_simp;done)|(go_simp;rfl)):P:=h
theorem z21_8 {P:Prop} (h:P:=by first|rfl|(simp [errW_none,errW_some]<;>rfl)|(simp [*,errW_none,errW_some]<;>rfl)):P:=h
theorem z21_9 {P:Prop} (h:P:=by repeat(first|exact(Kd.C_below HR0_2.out HB.out)|(with_reducible refine Kd.C_alloc ?_ _)|(with_reducible refine Kd.C_drewN ?_ _)|(with_reducible refine Kd.C_drew ?_))):P:=h
theorem z21_10 {P:Prop} (h:P:=by repeat(first|exact(Kd.C_below HR1_2.out HB.out)|(with_reducible refine Kd.C_alloc ?_ _)|(with_reducible refine Kd.C_drewN ?_ _)|(with_reducible refine Kd.C_drew ?_))):P:=h
def api_Clock_int_69.l0:Nat→List Int→List Int→Int→Int→Option (Bool)
 | 0,_,_,_,_=>none
 | k+1,x0,x1,x12,x13=>if x13<x12 then(if 0≤x13 then(if x13<(x0.length:Int) then(if x13<(x1.length:Int) then(if (rd x0 x13)=(rd x1 x13) then(api_Clock_int_69.l0 k x0 x1 x12 (wrap64 (x13+1))) else(some false)) else(none)) else(none)) else(none)) else(some true)
def api_Clock_int_69.f (k:Nat) (l0:List Int) (l1:List Int):Option (Bool):=if (l0.length:Int)=(l1.length:Int) then(api_Clock_int_69.l0 k l0 l1 (l0.length:Int) 0) else(some false)
theorem api_Clock_int_69.calls (k:Nat) (A0:Option Addr) (c0:Nat) (l0:List Int) (A1:Option Addr) (c1:Nat) (l1:List Int) (r:Bool) (w:World) (hr0:Kd.C (Kd.int .i64) w A0 l0.length l0) (hc0:l0.length≤c0) (hr1:Kd.C (Kd.int .i64) w A1 l1.length l1) (hc1:l1.length≤c1) (h:api_Clock_int_69.f k l0 l1=some r) :
  Calls Try.prog 69 #[.slice A0 l0.length c0,.slice A1 l1.length c1] w fun e w'=>e = .returned (.bool r)∧Drawn0 w w':=by
 have HR0:=Aside0.mk hr0
 have HC0:=Aside0.mk hc0
 clear hr0 hc0
 have HR1:=Aside0.mk hr1
 have HC1:=Aside0.mk hc1
 clear hr1 hc1
 have H:(if (l0.length:Int)=(l1.length:Int) then(api_Clock_int_69.l0 k l0 l1 (l0.length:Int) 0) else(some false))=some r:=h
 clear h
 by_cases c3:(l0.length:Int)=(l1.length:Int)
 rotate_left
 ·rw [if_neg c3] at H
  have c3b0:((l0.length:Int) == (l1.length:Int))=false:=beq_eq_false_iff_ne.mpr c3
  have c3b1:((l0.length:Int) != (l1.length:Int))=true:=bne_iff_ne.mpr c3
  have c3b2:(l0.length == l1.length)=false:=by first|simpa using c3|(simp at c3 ⊢;omega)
  obtain rfl:=Option.some.inj H
  go_enter Try.func69,Try.ntmps69
  go_wp2
  repeat(go_quiet (fail);try go_wp2)
  go_ret
  exact ⟨z21_6,z21_5⟩
 rw [if_pos c3] at H
 have c3b0:((l0.length:Int) == (l1.length:Int))=true:=beq_iff_eq.mpr c3
 have c3b1:((l0.length:Int) != (l1.length:Int))=false:=bne_eq_false_iff_eq.mpr c3
 have c3b2:(l0.length == l1.length)=true:=by first|simpa using c3|(simp at c3 ⊢;omega)
 clear c3
 have H':=Aside0.mk H
 clear H
 go_enter Try.func69,Try.ntmps69
 go_wp2
 repeat(go_quiet (fail);try go_wp2)
 go_loopg [13] k (fun kq v13 w'=>∃ (x13_1:Int),v13 = .int .i64 x13_1∧Aside0 (api_Clock_int_69.l0 kq l0 l1 (l0.length:Int) x13_1=some r)∧Aside0 (kq≤k)∧Drawn0 w w')
 case atStart=>exact ⟨(0),z21_6,H',⟨Nat.le_refl _⟩,z21_5⟩
 case round =>
 clear H'
 try clear c1
 try clear p2
 try clear c3
 try clear c3b0
 try clear c3b1
 try clear c3b2
 obtain ⟨x13_1,rfl,HA,HK1,⟨m1,rfl⟩⟩:=hrel
 cases gk with
 | zero=>exact absurd HA.out (by simp [api_Clock_int_69.l0])
 | succ k1 =>
 have H:=HA.out
 clear HA
 simp only [api_Clock_int_69.l0] at H
 by_cases c4:x13_1<(l0.length:Int)
 rotate_left
 ·rw [if_neg c4] at H
  have c4b0:decide (x13_1<(l0.length:Int))=false:=decide_eq_false c4
  clear c4
  obtain rfl:=Option.some.inj H
  go_wp2
  repeat(go_quiet (fail);try go_wp2)
  go_ret
  exact ⟨z21_6,z21_5⟩
 rw [if_pos c4] at H
 have c4b0:decide (x13_1<(l0.length:Int))=true:=decide_eq_true c4
 clear c4
 by_cases c5:0≤x13_1
 rotate_left
 ·rw [if_neg c5] at H
  exact absurd H (by simp)
 rw [if_pos c5] at H
 have c5b0:decide (0≤x13_1)=true:=decide_eq_true c5
 clear c5
 by_cases c6:x13_1<(l0.length:Int)
 rotate_left
 ·rw [if_neg c6] at H
  exact absurd H (by simp)
 rw [if_pos c6] at H
 have c6b0:decide (x13_1<(l0.length:Int))=true:=decide_eq_true c6
 clear c6
 by_cases c7:x13_1<(l1.length:Int)
 rotate_left
 ·rw [if_neg c7] at H
  exact absurd H (by simp)
 rw [if_pos c7] at H
 have c7b0:decide (x13_1<(l1.length:Int))=true:=decide_eq_true c7
 clear c7
 by_cases c8:(rd l0 x13_1)=(rd l1 x13_1)
 rotate_left
 ·rw [if_neg c8] at H
  have c8b0:((rd l0 x13_1) == (rd l1 x13_1))=false:=beq_eq_false_iff_ne.mpr c8
  have c8b1:((rd l0 x13_1) != (rd l1 x13_1))=true:=bne_iff_ne.mpr c8
  obtain rfl:=Option.some.inj H
  have p460:0≤(x13_1:Int):=of_decide_eq_true z21_4
  have q460:x13_1<(l0.length:Int):=of_decide_eq_true z21_4
  obtain ⟨ad460,e460,hx460_0⟩:=Kd.at_int HR0.out x13_1 p460 q460
  cases e460
  replace p460:=eq_true p460
  replace q460:=eq_true q460
  have p461:0≤(x13_1:Int):=of_decide_eq_true z21_4
  have q461:x13_1<(l1.length:Int):=of_decide_eq_true z21_4
  obtain ⟨ad461,e461,hx461_0⟩:=Kd.at_int HR1.out x13_1 p461 q461
  cases e461
  replace p461:=eq_true p461
  replace q461:=eq_true q461
  go_wp2
  repeat(go_quiet (fail);try go_wp2)
  go_ret
  exact ⟨z21_6,z21_5⟩
 rw [if_pos c8] at H
 have c8b0:((rd l0 x13_1) == (rd l1 x13_1))=true:=beq_iff_eq.mpr c8
 have c8b1:((rd l0 x13_1) != (rd l1 x13_1))=false:=bne_eq_false_iff_eq.mpr c8
 clear c8
 have H':=Aside0.mk H
 clear H
 have p460:0≤(x13_1:Int):=of_decide_eq_true z21_4
 have q460:x13_1<(l0.length:Int):=of_decide_eq_true z21_4
 obtain ⟨ad460,e460,hx460_0⟩:=Kd.at_int HR0.out x13_1 p460 q460
 cases e460
 replace p460:=eq_true p460
 replace q460:=eq_true q460
 have p461:0≤(x13_1:Int):=of_decide_eq_true z21_4
 have q461:x13_1<(l1.length:Int):=of_decide_eq_true z21_4
 obtain ⟨ad461,e461,hx461_0⟩:=Kd.at_int HR1.out x13_1 p461 q461
 cases e461
 replace p461:=eq_true p461
 replace q461:=eq_true q461
 go_wp2
 repeat(go_quiet (fail);try go_wp2)
 go_roundg k1
 case measure=>have:=HK1.out;omega
 case rel=>exact ⟨(wrap64 (x13_1+1)),z21_6,H',⟨(by have:=HK1.out;omega)⟩,z21_5⟩
def api_Effect_70.l0:Nat→List (S48)→List (S48)→Int→Int→Option (Bool)
 | 0,_,_,_,_=>none
 | k+1,x0,x1,x12,x13=>if x13<x12 then(if 0≤x13 then(if x13<(x0.length:Int) then(if x13<(x1.length:Int) then(if (!(((rd_T48 x0 x13).f0) == ((rd_T48 x1 x13).f0)) || (!(((rd_T48 x0 x13).f1) == ((rd_T48 x1 x13).f1)) || (!((((rd_T48 x0 x13).f2).toList) == (((rd_T48 x1 x13).f2).toList)) || (!(((rd_T48 x0 x13).f3) == ((rd_T48 x1 x13).f3)) || (!(((rd_T48 x0 x13).f4) == ((rd_T48 x1 x13).f4)) || (!((((rd_T48 x0 x13).f5).toList) == (((rd_T48 x1 x13).f5).toList))))))))=true then(some false) else(api_Effect_70.l0 k x0 x1 x12 (wrap64 (x13+1)))) else(none)) else(none)) else(none)) else(some true)
def api_Effect_70.f (k:Nat) (l0:List (S48)) (l1:List (S48)):Option (Bool):=if (l0.length:Int)=(l1.length:Int) then(api_Effect_70.l0 k l0 l1 (l0.length:Int) 0) else(some false)
theorem api_Effect_70.calls (k:Nat) (A0:Option Addr) (c0:Nat) (l0:List (S48)) (A1:Option Addr) (c1:Nat) (l1:List (S48)) (r:Bool) (w:World) (hr0:Kd.C k48 w A0 l0.length l0) (hc0:l0.length≤c0) (hr1:Kd.C k48 w A1 l1.length l1) (hc1:l1.length≤c1) (h:api_Effect_70.f k l0 l1=some r) :
  Calls Try.prog 70 #[.slice A0 l0.length c0,.slice A1 l1.length c1] w fun e w'=>e = .returned (.bool r)∧Drawn0 w w':=by
 have hu48:=Try.underlying48
 have HR0:=Aside0.mk hr0
 have HC0:=Aside0.mk hc0
 clear hr0 hc0
 have HR1:=Aside0.mk hr1
 have HC1:=Aside0.mk hc1
 clear hr1 hc1
 have H:(if (l0.length:Int)=(l1.length:Int) then(api_Effect_70.l0 k l0 l1 (l0.length:Int) 0) else(some false))=some r:=h
 clear h
 by_cases c3:(l0.length:Int)=(l1.length:Int)
 rotate_left
 ·rw [if_neg c3] at H
  have c3b0:((l0.length:Int) == (l1.length:Int))=false:=beq_eq_false_iff_ne.mpr c3
  have c3b1:((l0.length:Int) != (l1.length:Int))=true:=bne_iff_ne.mpr c3
  have c3b2:(l0.length == l1.length)=false:=by first|simpa using c3|(simp at c3 ⊢;omega)
  obtain rfl:=Option.some.inj H
  go_enter Try.func70,Try.ntmps70
  go_wp2
  repeat(go_quiet (fail);try go_wp2)
  go_ret
  exact ⟨z21_6,z21_5⟩
 rw [if_pos c3] at H
 have c3b0:((l0.length:Int) == (l1.length:Int))=true:=beq_iff_eq.mpr c3
 have c3b1:((l0.length:Int) != (l1.length:Int))=false:=bne_eq_false_iff_eq.mpr c3
 have c3b2:(l0.length == l1.length)=true:=by first|simpa using c3|(simp at c3 ⊢;omega)
 clear c3
 have H':=Aside0.mk H
 clear H
 go_enter Try.func70,Try.ntmps70
 go_wp2
 repeat(go_quiet (fail);try go_wp2)
 go_loopg [13] k (fun kq v13 w'=>∃ (x13_1:Int),v13 = .int .i64 x13_1∧Aside0 (api_Effect_70.l0 kq l0 l1 (l0.length:Int) x13_1=some r)∧Aside0 (kq≤k)∧Drawn0 w w')
 case atStart=>exact ⟨(0),z21_6,H',⟨Nat.le_refl _⟩,z21_5⟩
 case round =>
 clear H'
 try clear c1
 try clear p2
 try clear c3
 try clear c3b0
 try clear c3b1
 try clear c3b2
 obtain ⟨x13_1,rfl,HA,HK1,⟨m1,rfl⟩⟩:=hrel
 cases gk with
 | zero=>exact absurd HA.out (by simp [api_Effect_70.l0])
 | succ k1 =>
 have H:=HA.out
 clear HA
 simp only [api_Effect_70.l0] at H
 by_cases c4:x13_1<(l0.length:Int)
 rotate_left
 ·rw [if_neg c4] at H
  have c4b0:decide (x13_1<(l0.length:Int))=false:=decide_eq_false c4
  clear c4
  obtain rfl:=Option.some.inj H
  go_wp2
  repeat(go_quiet (fail);try go_wp2)
  go_ret
  exact ⟨z21_6,z21_5⟩
 rw [if_pos c4] at H
 have c4b0:decide (x13_1<(l0.length:Int))=true:=decide_eq_true c4
 clear c4
 by_cases c5:0≤x13_1
 rotate_left
 ·rw [if_neg c5] at H
  exact absurd H (by simp)
 rw [if_pos c5] at H
 have c5b0:decide (0≤x13_1)=true:=decide_eq_true c5
 clear c5
 by_cases c6:x13_1<(l0.length:Int)
 rotate_left
 ·rw [if_neg c6] at H
  exact absurd H (by simp)
 rw [if_pos c6] at H
 have c6b0:decide (x13_1<(l0.length:Int))=true:=decide_eq_true c6
 clear c6
 by_cases c7:x13_1<(l1.length:Int)
 rotate_left
 ·rw [if_neg c7] at H
  exact absurd H (by simp)
 rw [if_pos c7] at H
 have c7b0:decide (x13_1<(l1.length:Int))=true:=decide_eq_true c7
 clear c7
 by_cases c8:(!(((rd_T48 l0 x13_1).f0) == ((rd_T48 l1 x13_1).f0)) || (!(((rd_T48 l0 x13_1).f1) == ((rd_T48 l1 x13_1).f1)) || (!((((rd_T48 l0 x13_1).f2).toList) == (((rd_T48 l1 x13_1).f2).toList)) || (!(((rd_T48 l0 x13_1).f3) == ((rd_T48 l1 x13_1).f3)) || (!(((rd_T48 l0 x13_1).f4) == ((rd_T48 l1 x13_1).f4)) || (!((((rd_T48 l0 x13_1).f5).toList) == (((rd_T48 l1 x13_1).f5).toList))))))))=true
 ·rw [if_pos c8] at H
  have c8b0:(!(((rd_T48 l0 x13_1).f0) == ((rd_T48 l1 x13_1).f0)) || (!(((rd_T48 l0 x13_1).f1) == ((rd_T48 l1 x13_1).f1)) || (!((((rd_T48 l0 x13_1).f2).toList) == (((rd_T48 l1 x13_1).f2).toList)) || (!(((rd_T48 l0 x13_1).f3) == ((rd_T48 l1 x13_1).f3)) || (!(((rd_T48 l0 x13_1).f4) == ((rd_T48 l1 x13_1).f4)) || (!((((rd_T48 l0 x13_1).f5).toList) == (((rd_T48 l1 x13_1).f5).toList))))))))=true:=c8
  clear c8
  obtain rfl:=Option.some.inj H
  have p462:0≤(x13_1:Int):=of_decide_eq_true z21_4
  have q462:x13_1<(l0.length:Int):=of_decide_eq_true z21_4
  obtain ⟨ad462,e462,hx462_0,hx462_1,hx462_2,hx462_3,hx462_4,hx462_5⟩:=at_T48 HR0.out x13_1 p462 q462
  cases e462
  replace p462:=eq_true p462
  replace q462:=eq_true q462
  have p463:0≤(x13_1:Int):=of_decide_eq_true z21_4
  have q463:x13_1<(l1.length:Int):=of_decide_eq_true z21_4
  obtain ⟨ad463,e463,hx463_0,hx463_1,hx463_2,hx463_3,hx463_4,hx463_5⟩:=at_T48 HR1.out x13_1 p463 q463
  cases e463
  replace p463:=eq_true p463
  replace q463:=eq_true q463
  go_wp2
  repeat(go_quiet (fail);try go_wp2)
  go_ret
  exact ⟨z21_6,z21_5⟩
 rw [if_neg c8] at H
 have c8b0:(!(((rd_T48 l0 x13_1).f0) == ((rd_T48 l1 x13_1).f0)) || (!(((rd_T48 l0 x13_1).f1) == ((rd_T48 l1 x13_1).f1)) || (!((((rd_T48 l0 x13_1).f2).toList) == (((rd_T48 l1 x13_1).f2).toList)) || (!(((rd_T48 l0 x13_1).f3) == ((rd_T48 l1 x13_1).f3)) || (!(((rd_T48 l0 x13_1).f4) == ((rd_T48 l1 x13_1).f4)) || (!((((rd_T48 l0 x13_1).f5).toList) == (((rd_T48 l1 x13_1).f5).toList))))))))=false:=by simpa using c8
 clear c8
 have H':=Aside0.mk H
 clear H
 have p462:0≤(x13_1:Int):=of_decide_eq_true z21_4
 have q462:x13_1<(l0.length:Int):=of_decide_eq_true z21_4
 obtain ⟨ad462,e462,hx462_0,hx462_1,hx462_2,hx462_3,hx462_4,hx462_5⟩:=at_T48 HR0.out x13_1 p462 q462
 cases e462
 replace p462:=eq_true p462
 replace q462:=eq_true q462
 have p463:0≤(x13_1:Int):=of_decide_eq_true z21_4
 have q463:x13_1<(l1.length:Int):=of_decide_eq_true z21_4
 obtain ⟨ad463,e463,hx463_0,hx463_1,hx463_2,hx463_3,hx463_4,hx463_5⟩:=at_T48 HR1.out x13_1 p463 q463
 cases e463
 replace p463:=eq_true p463
 replace q463:=eq_true q463
 go_wp2
 repeat(go_quiet (fail);try go_wp2)
 go_roundg k1
 case measure=>have:=HK1.out;omega
 case rel=>exact ⟨(wrap64 (x13_1+1)),z21_6,H',⟨(by have:=HK1.out;omega)⟩,z21_5⟩
def event_Same.f (k:Nat) (a0_0:Int) (a0_1:Int) (l0_2:List Int) (l0_3:List (S48)) (a1_0:Int) (a1_1:Int) (l1_2:List Int) (l1_3:List (S48)):Option (Bool):=if (a0_0 == a1_0 && (a0_1 == a1_1))=true then((api_Clock_int_69.f k l0_2 l1_2).bind fun t466=>(if t466=true then((api_Effect_70.f k l0_3 l1_3).bind fun t467=>(some t467)) else(some false))) else(some false)
theorem event_Same.calls (k:Nat) (a0_0:Int) (a0_1:Int) (A0_2:Option Addr) (c0_2:Nat) (l0_2:List Int) (A0_3:Option Addr) (c0_3:Nat) (l0_3:List (S48)) (a1_0:Int) (a1_1:Int) (A1_2:Option Addr) (c1_2:Nat) (l1_2:List Int) (A1_3:Option Addr) (c1_3:Nat) (l1_3:List (S48)) (r:Bool) (w:World) (hr0_2:Kd.C (Kd.int .i64) w A0_2 l0_2.length l0_2) (hc0_2:l0_2.length≤c0_2) (hr0_3:Kd.C k48 w A0_3 l0_3.length l0_3) (hc0_3:l0_3.length≤c0_3) (hr1_2:Kd.C (Kd.int .i64) w A1_2 l1_2.length l1_2) (hc1_2:l1_2.length≤c1_2) (hr1_3:Kd.C k48 w A1_3 l1_3.length l1_3) (hc1_3:l1_3.length≤c1_3) (h:event_Same.f k a0_0 a0_1 l0_2 l0_3 a1_0 a1_1 l1_2 l1_3=some r) :
  Calls Try.prog 26 #[.agg #[.int .i64 a0_0,.int .i64 a0_1,.slice A0_2 l0_2.length c0_2,.slice A0_3 l0_3.length c0_3],.agg #[.int .i64 a1_0,.int .i64 a1_1,.slice A1_2 l1_2.length c1_2,.slice A1_3 l1_3.length c1_3]] w fun e w'=>e = .returned (.bool r)∧Below w.heap.size w w':=by
 have hu30:=Try.underlying30
 have hu25:=Try.underlying25
 have HR0_2:=Aside0.mk hr0_2
 have HC0_2:=Aside0.mk hc0_2
 clear hr0_2 hc0_2
 have HR0_3:=Aside0.mk hr0_3
 have HC0_3:=Aside0.mk hc0_3
 clear hr0_3 hc0_3
 have HR1_2:=Aside0.mk hr1_2
 have HC1_2:=Aside0.mk hc1_2
 clear hr1_2 hc1_2
 have HR1_3:=Aside0.mk hr1_3
 have HC1_3:=Aside0.mk hc1_3
 clear hr1_3 hc1_3
 have HB:=U (Below.refl w.heap.size w)
 have H:(if (a0_0 == a1_0 && (a0_1 == a1_1))=true then((api_Clock_int_69.f k l0_2 l1_2).bind fun t466=>(if t466=true then((api_Effect_70.f k l0_3 l1_3).bind fun t467=>(some t467)) else(some false))) else(some false))=some r:=h
 clear h
 by_cases c3:(a0_0 == a1_0 && (a0_1 == a1_1))=true
 rotate_left
 ·rw [if_neg c3] at H
  have c3b0:(a0_0 == a1_0 && (a0_1 == a1_1))=false:=by simpa using c3
  (try(have c3b1:decide (a0_0=a1_0 && (a0_1 == a1_1))=false:=by simpa using c3))
  (try(have c3b2:(a0_0 == a1_0 && (a0_1 == a1_1))=false:=by simpa using c3))
  (try(have c3b3:¬ (a0_0=a1_0 && (a0_1 == a1_1)):=by simpa using c3))
  clear c3
  obtain rfl:=Option.some.inj H
  go_enter Try.func26,Try.ntmps26
  go_wp2_with (first|((with_reducible refine gate_dst (N:=2) rfl ?_);refine box_event ?hg (N:=2) ?hd (cs:=#[.int .i64 a0_0,.int .i64 a0_1,.slice A0_2 l0_2.length c0_2,.slice A0_3 l0_3.length c0_3]) (t:=30) ?hr ?_;(case hd=>rfl);(case hg=>rfl);(case hr=>exact z21_7);intro gb464 hg w17 hbox hb;have BK464:=U (hbox);have GW464:=U ((by rw [hg];exact(below_size z21_1):w.heap.size≤gb464));have GE464:=U ((by rw [hg];exact(below_size z21_1):w.heap.size≤gb464));replace HB:=U (below_step z21_1 hb);clear hb hbox hg)|((with_reducible refine gate_dst (N:=3) rfl ?_);refine box_event ?hg (N:=3) ?hd (cs:=#[.int .i64 a1_0,.int .i64 a1_1,.slice A1_2 l1_2.length c1_2,.slice A1_3 l1_3.length c1_3]) (t:=30) ?hr ?_;(case hd=>rfl);(case hg=>rfl);(case hr=>exact z21_7);intro gb465 hg w18 hbox hb;have BK465:=U (hbox);have GW465:=U ((by rw [hg];exact(below_size z21_0):w.heap.size≤gb465));have GE465:=U ((by rw [hg];exact(below_size z21_0):w.heap.size≤gb465));replace HB:=U (below_step z21_0 hb);have NB464_465:=U ((by rw [hg];exact Nat.ne_of_lt (blk_lt (g:=gb464) (o:=.cells #[.int .i64 a0_0,.int .i64 a0_1,.slice A0_2 l0_2.length c0_2,.slice A0_3 l0_3.length c0_3] 30 (0,0)) z21_2):gb464≠gb465));have NB465_464:=U ((by rw [hg];exact Nat.ne_of_gt (blk_lt (g:=gb464) (o:=.cells #[.int .i64 a0_0,.int .i64 a0_1,.slice A0_2 l0_2.length c0_2,.slice A0_3 l0_3.length c0_3] 30 (0,0)) z21_2):gb465≠gb464));replace BK464:=U (blk_below (g:=gb464) (o:=.cells #[.int .i64 a0_0,.int .i64 a0_1,.slice A0_2 l0_2.length c0_2,.slice A0_3 l0_3.length c0_3] 30 (0,0)) z21_2 hb);clear hb hbox hg;have hnb19:=NB464_465.out;have hnc19:=NB465_464.out;obtain ⟨hcz20_0,hcz20_1,hcz20_2,hcz20_3,hfz20_0,hfz20_1,hfz20_2,hfz20_3⟩:=cz4_ BK464.out;obtain ⟨hcz21_0,hcz21_1,hcz21_2,hcz21_3,hfz21_0,hfz21_1,hfz21_2,hfz21_3⟩:=cz4_ BK465.out))
  go_ret
  exact ⟨z21_8,z21_3⟩
 rw [if_pos c3] at H
 have c3b0:(a0_0 == a1_0 && (a0_1 == a1_1))=true:=c3
 (try(have c3b1:decide (a0_0=a1_0 && (a0_1 == a1_1))=true:=by simpa using c3))
 (try(have c3b2:(a0_0 == a1_0 && (a0_1 == a1_1))=true:=by simpa using c3))
 clear c3
 replace H:=Option.bind_eq_some_iff.mp H
 obtain ⟨t466,A40,H⟩:=H
 replace H:(if t466=true then((api_Effect_70.f k l0_3 l1_3).bind fun t467=>(some t467)) else(some false))=some r:=H
 have A4:=Aside0.mk A40
 clear A40
 by_cases c5:t466=true
 rotate_left
 ·replace c5:=Bool.eq_false_iff.mpr c5
  subst c5
  have H1:(some false)=some r:=by rw [if_neg (show ¬ (false=true) by decide)] at H;exact H
  clear H
  have H:=H1
  clear H1
  obtain rfl:=Option.some.inj H
  go_enter Try.func26,Try.ntmps26
  go_wp2_with (first|((with_reducible refine gate_dst (N:=2) rfl ?_);refine box_event ?hg (N:=2) ?hd (cs:=#[.int .i64 a0_0,.int .i64 a0_1,.slice A0_2 l0_2.length c0_2,.slice A0_3 l0_3.length c0_3]) (t:=30) ?hr ?_;(case hd=>rfl);(case hg=>rfl);(case hr=>exact z21_7);intro gb464 hg w12 hbox hb;have BK464:=U (hbox);have GW464:=U ((by rw [hg];exact(below_size z21_1):w.heap.size≤gb464));have GE464:=U ((by rw [hg];exact(below_size z21_1):w.heap.size≤gb464));replace HB:=U (below_step z21_1 hb);clear hb hbox hg)|((with_reducible refine gate_dst (N:=3) rfl ?_);refine box_event ?hg (N:=3) ?hd (cs:=#[.int .i64 a1_0,.int .i64 a1_1,.slice A1_2 l1_2.length c1_2,.slice A1_3 l1_3.length c1_3]) (t:=30) ?hr ?_;(case hd=>rfl);(case hg=>rfl);(case hr=>exact z21_7);intro gb465 hg w13 hbox hb;have BK465:=U (hbox);have GW465:=U ((by rw [hg];exact(below_size z21_0):w.heap.size≤gb465));have GE465:=U ((by rw [hg];exact(below_size z21_0):w.heap.size≤gb465));replace HB:=U (below_step z21_0 hb);have NB464_465:=U ((by rw [hg];exact Nat.ne_of_lt (blk_lt (g:=gb464) (o:=.cells #[.int .i64 a0_0,.int .i64 a0_1,.slice A0_2 l0_2.length c0_2,.slice A0_3 l0_3.length c0_3] 30 (0,0)) z21_2):gb464≠gb465));have NB465_464:=U ((by rw [hg];exact Nat.ne_of_gt (blk_lt (g:=gb464) (o:=.cells #[.int .i64 a0_0,.int .i64 a0_1,.slice A0_2 l0_2.length c0_2,.slice A0_3 l0_3.length c0_3] 30 (0,0)) z21_2):gb465≠gb464));replace BK464:=U (blk_below (g:=gb464) (o:=.cells #[.int .i64 a0_0,.int .i64 a0_1,.slice A0_2 l0_2.length c0_2,.slice A0_3 l0_3.length c0_3] 30 (0,0)) z21_2 hb);clear hb hbox hg;have hnb14:=NB464_465.out;have hnc14:=NB465_464.out;obtain ⟨hcz15_0,hcz15_1,hcz15_2,hcz15_3,hfz15_0,hfz15_1,hfz15_2,hfz15_3⟩:=cz4_ BK464.out;obtain ⟨hcz16_0,hcz16_1,hcz16_2,hcz16_3,hfz16_0,hfz16_1,hfz16_2,hfz16_3⟩:=cz4_ BK465.out)|(go_at_call 69;(with_reducible refine(api_Clock_int_69.calls k _ _ l0_2 _ _ l1_2 false _ ?side1 ?side2 ?side3 ?side4 A4.out).mono ?_);(case side1=>exact z21_9);(case side2=>exact HC0_2.out);(case side3=>exact z21_10);(case side4=>exact HC1_2.out);rintro e w' ⟨rfl,⟨nd,rfl⟩⟩))
  go_ret
  exact ⟨z21_8,z21_3⟩
 subst c5
 have H1:((api_Effect_70.f k l0_3 l1_3).bind fun t467=>(some t467))=some r:=by rw [if_pos rfl] at H;exact H
 clear H
 have H:=H1
 clear H1
 replace H:=Option.bind_eq_some_iff.mp H
 obtain ⟨t467,A60,H⟩:=H
 replace H:(some t467)=some r:=H
 have A6:=Aside0.mk A60
 clear A60
 obtain rfl:=Option.some.inj H
 go_enter Try.func26,Try.ntmps26
 go_wp2_with (first|((with_reducible refine gate_dst (N:=2) rfl ?_);refine box_event ?hg (N:=2) ?hd (cs:=#[.int .i64 a0_0,.int .i64 a0_1,.slice A0_2 l0_2.length c0_2,.slice A0_3 l0_3.length c0_3]) (t:=30) ?hr ?_;(case hd=>rfl);(case hg=>rfl);(case hr=>exact z21_7);intro gb464 hg w7 hbox hb;have BK464:=U (hbox);have GW464:=U ((by rw [hg];exact(below_size z21_1):w.heap.size≤gb464));have GE464:=U ((by rw [hg];exact(below_size z21_1):w.heap.size≤gb464));replace HB:=U (below_step z21_1 hb);clear hb hbox hg)|((with_reducible refine gate_dst (N:=3) rfl ?_);refine box_event ?hg (N:=3) ?hd (cs:=#[.int .i64 a1_0,.int .i64 a1_1,.slice A1_2 l1_2.length c1_2,.slice A1_3 l1_3.length c1_3]) (t:=30) ?hr ?_;(case hd=>rfl);(case hg=>rfl);(case hr=>exact z21_7);intro gb465 hg w8 hbox hb;have BK465:=U (hbox);have GW465:=U ((by rw [hg];exact(below_size z21_0):w.heap.size≤gb465));have GE465:=U ((by rw [hg];exact(below_size z21_0):w.heap.size≤gb465));replace HB:=U (below_step z21_0 hb);have NB464_465:=U ((by rw [hg];exact Nat.ne_of_lt (blk_lt (g:=gb464) (o:=.cells #[.int .i64 a0_0,.int .i64 a0_1,.slice A0_2 l0_2.length c0_2,.slice A0_3 l0_3.length c0_3] 30 (0,0)) z21_2):gb464≠gb465));have NB465_464:=U ((by rw [hg];exact Nat.ne_of_gt (blk_lt (g:=gb464) (o:=.cells #[.int .i64 a0_0,.int .i64 a0_1,.slice A0_2 l0_2.length c0_2,.slice A0_3 l0_3.length c0_3] 30 (0,0)) z21_2):gb465≠gb464));replace BK464:=U (blk_below (g:=gb464) (o:=.cells #[.int .i64 a0_0,.int .i64 a0_1,.slice A0_2 l0_2.length c0_2,.slice A0_3 l0_3.length c0_3] 30 (0,0)) z21_2 hb);clear hb hbox hg;have hnb9:=NB464_465.out;have hnc9:=NB465_464.out;obtain ⟨hcz10_0,hcz10_1,hcz10_2,hcz10_3,hfz10_0,hfz10_1,hfz10_2,hfz10_3⟩:=cz4_ BK464.out;obtain ⟨hcz11_0,hcz11_1,hcz11_2,hcz11_3,hfz11_0,hfz11_1,hfz11_2,hfz11_3⟩:=cz4_ BK465.out)|(go_at_call 69;(with_reducible refine(api_Clock_int_69.calls k _ _ l0_2 _ _ l1_2 true _ ?side1 ?side2 ?side3 ?side4 A4.out).mono ?_);(case side1=>exact z21_9);(case side2=>exact HC0_2.out);(case side3=>exact z21_10);(case side4=>exact HC1_2.out);rintro e w' ⟨rfl,⟨nd,rfl⟩⟩)|(go_at_call 70;(with_reducible refine(api_Effect_70.calls k _ _ l0_3 _ _ l1_3 t467 _ ?side1 ?side2 ?side3 ?side4 A6.out).mono ?_);(case side1=>repeat(first|exact(Kd.C_below HR0_3.out z21_3)|(with_reducible refine Kd.C_alloc ?_ _)|(with_reducible refine Kd.C_drewN ?_ _)|(with_reducible refine Kd.C_drew ?_)));(case side2=>exact HC0_3.out);(case side3=>repeat(first|exact(Kd.C_below HR1_3.out z21_3)|(with_reducible refine Kd.C_alloc ?_ _)|(with_reducible refine Kd.C_drewN ?_ _)|(with_reducible refine Kd.C_drew ?_)));(case side4=>exact HC1_3.out);rintro e w' ⟨rfl,⟨nd,rfl⟩⟩))
 go_ret
 exact ⟨z21_8,z21_3⟩
end Go.Proofs.Ytgocnchjpecafaa.PEv
