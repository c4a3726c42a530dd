/- a part -/
import Derived.Test.YtgocnchjpecafaaPEvx18
namespace Go.Proofs.Ytgocnchjpecafaa.PEv
open Go.RowKit Go.Proofs.YtgocnchjpecafaaW.PrintWords Go.Proofs.YtgocnchjpecafaaW.PrintLast Go.Proofs.YtgocnchjpecafaaW.PrintMore
attribute [local go_sem] max2_int min2_int max_two min_two max_three min_three max_four min_four
set_option linter.unusedVariables false
set_option linter.unusedSimpArgs false
set_option maxHeartbeats 8000000
set_option maxRecDepth 100000
mutual
def w05_Light.l0:Nat->List (S30)->Int->Option (Bool)
 | 0,_,_=>none
 | k+1,x0,x3=>if x3<(x0.length:Int) then(w05_Light.j1 k x0 x3 (decide (x3<=40))) else(w05_Light.j1 k x0 x3 false)
def w05_Light.j1:Nat->List (S30)->Int->Bool->Option (Bool)
 | 0,_,_,_=>none
 | k+1,x0,x3,x12=>if x12=true then(if 0<=x3 then(if x3<(x0.length:Int) then(if (((rd_T30 x0 x3).f1).length:Int) > 20 then(w05_Light.j2 k x0 x3 true) else(w05_Light.j2 k x0 x3 (decide ((((rd_T30 x0 x3).f2).length:Int) > 30)))) else(none)) else(none)) else(some (decide ((x0.length:Int)<=40)))
def w05_Light.j2:Nat->List (S30)->Int->Bool->Option (Bool)
 | 0,_,_,_=>none
 | k+1,x0,x3,x30=>if x30=true then(some false) else(w05_Light.l1 k x0 x3 0)
def w05_Light.l1:Nat->List (S30)->Int->Int->Option (Bool)
 | 0,_,_,_=>none
 | k+1,x0,x3,x4=>if 0<=x3 then(if x3<(x0.length:Int) then(if x4<(((rd_T30 x0 x3).f2).length:Int) then(if 0<=x4 then(if (((rd_T48 ((rd_T30 x0 x3).f2) x4).f2).size:Int) > 100 then(some false) else(if (((rd_T48 ((rd_T30 x0 x3).f2) x4).f5).size:Int) > 100 then(some false) else(w05_Light.l1 k x0 x3 (wrap64 (x4+1))))) else(none)) else(w05_Light.l0 k x0 (wrap64 (x3+1)))) else(none)) else(none)
end
def w05_Light.f (k:Nat) (l0:List (S30)):Option (Bool):=w05_Light.l0 k l0 0
theorem w05_Light.calls (k:Nat) (A0:Option Addr) (c0:Nat) (l0:List (S30)) (r:Bool) (w:World) (hr0:Kd.C k30 w A0 l0.length l0) (hc0:l0.length<=c0) (h:w05_Light.f k l0=some r) :
  Calls Try.prog 16 #[.slice A0 l0.length c0] w λe w'=>e = .returned (.bool r)/\Drawn0 w w':=by
 have HR0:=Aside0.mk hr0
 have HC0:=Aside0.mk hc0
 clear hr0 hc0
 have H:(w05_Light.l0 k l0 0)=some r:=h
 clear h
 have H':=Aside0.mk H
 clear H
 go_enter Try.func16,Try.ntmps16
 go_wp2
 go_loopg [3] k (λkq v3 w'=>∃ (x3_1:Int),v3 = .int .i64 x3_1/\Aside0 (w05_Light.l0 kq l0 x3_1=some r)/\Aside0 (kq<=k)/\Drawn0 w w')
 case atStart=>exact ⟨(0),z9_3,H',⟨Nat.le_refl _⟩,z6_3⟩
 case round =>
 clear H'
 try clear c1
 obtain ⟨x3_1,rfl,HA,HK1,⟨m1,rfl⟩⟩:=hrel
 cases gk with
 | zero=>exact absurd HA.out (by simp [w05_Light.l0])
 | succ k1 =>
 have H:=HA.out
 clear HA
 simp only [w05_Light.l0] at H
 have HC2:=Aside0.mk H
 clear H
 go_upto_region 2 with (fail)
 go_cut [12] (λv12 wc=>∃ (kq:Nat) (x12_1:Bool),v12 = .bool x12_1/\Aside0 (w05_Light.j1 kq l0 x3_1 x12_1=some r)/\Aside0 (kq<=k1)/\Drawn0 w wc)
 case first =>
  have H:=HC2.out
  clear HC2
  by_cases c3:x3_1<(l0.length:Int)
  ·rw [if_pos c3] at H
   have c3b0:decide (x3_1<(l0.length:Int))=true:=dT_ c3
   clear c3
   (first|rw [c3b0]|(simp only [i64_w,i32_w];rw [c3b0])|skip)
   have H':=Aside0.mk H
   clear H
   go_wp2
   go_meet
   case rel=>exact ⟨_,(decide (x3_1<=40)),z9_3,H',⟨(by have:=HK1.out;first|omega|exact Nat.le_refl _)⟩,z6_3⟩
  rw [if_neg c3] at H
  have c3b0:decide (x3_1<(l0.length:Int))=false:=dF_ c3
  clear c3
  (first|rw [c3b0]|(simp only [i64_w,i32_w];rw [c3b0])|skip)
  have H':=Aside0.mk H
  clear H
  go_wp2
  go_meet
  case rel=>exact ⟨_,(false),z9_3,H',⟨(by have:=HK1.out;first|omega|exact Nat.le_refl _)⟩,z6_3⟩
 case rest =>
 clear HC2
 try clear c1
 try clear p2
 try clear c3
 try clear c3b0
 obtain ⟨kq,x12_1,rfl,HA,HJ1,⟨mc1,rfl⟩⟩:=hcut
 cases kq with
 | zero=>exact absurd HA.out (by simp [w05_Light.j1])
 | succ kj1 =>
 have H:=HA.out
 clear HA
 simp only [w05_Light.j1] at H
 by_cases c4:x12_1=true
 rotate_left
 ·replace c4:=Bool.eq_false_iff.mpr c4
  subst c4
  have H1:(some (decide ((l0.length:Int)<=40)))=some r:=by rw [if_neg (show ¬ (false=true) by decide)] at H;exact H
  clear H
  have H:=H1
  clear H1
  obtain rfl:=sI_ H
  go_wp2
  go_ret
  exact ⟨z9_3,z6_3⟩
 subst c4
 have H1:(if 0<=x3_1 then(if x3_1<(l0.length:Int) then(if (((rd_T30 l0 x3_1).f1).length:Int) > 20 then(w05_Light.j2 kj1 l0 x3_1 true) else(w05_Light.j2 kj1 l0 x3_1 (decide ((((rd_T30 l0 x3_1).f2).length:Int) > 30)))) else(none)) else(none))=some r:=by rw [if_pos rfl] at H;exact H
 clear H
 have H:=H1
 clear H1
 have HC5:=Aside0.mk H
 clear H
 go_upto_region 4 with (fail)
 go_cut [30] (λv30 wc=>∃ (kq:Nat) (x30_4:Bool),v30 = .bool x30_4/\Aside0 (w05_Light.j2 kq l0 x3_1 x30_4=some r)/\Aside0 (kq<=kj1)/\Drawn0 w wc)
 case first =>
  have H:=HC5.out
  clear HC5
  by_cases c6:0<=x3_1
  rotate_left
  ·rw [if_neg c6] at H
   exact absurd H (by simp)
  rw [if_pos c6] at H
  have c6b0:decide (0<=x3_1)=true:=dT_ c6
  clear c6
  (first|rw [c6b0]|(simp only [i64_w,i32_w];rw [c6b0])|skip)
  by_cases c7:x3_1<(l0.length:Int)
  rotate_left
  ·rw [if_neg c7] at H
   exact absurd H (by simp)
  rw [if_pos c7] at H
  have c7b0:decide (x3_1<(l0.length:Int))=true:=dT_ c7
  clear c7
  by_cases c8:(((rd_T30 l0 x3_1).f1).length:Int) > 20
  ·rw [if_pos c8] at H
   have c8b0:decide (20<(((rd_T30 l0 x3_1).f1).length:Int))=true:=dT_ c8
   have c8b1:decide (20<((rd_T30 l0 x3_1).f1).length)=true:=dT_ (by omega)
   clear c8
   have H':=Aside0.mk H
   clear H
   have p452:0<=(x3_1:Int):=oD_ z6_1
   have q452:x3_1<(l0.length:Int):=oD_ z6_1
   obtain ⟨ad452,A452_2,c452_2,A452_3,c452_3,e452,hx452_0,hx452_1,hx452_2,hx452_3,hl452_2,hi452_2,hl452_3,hi452_3⟩:=at_T30 HR0.out x3_1 p452 q452
   cases e452
   have HR452_2:=Aside0.mk hi452_2
   have HC452_2:=Aside0.mk hl452_2
   clear hi452_2 hl452_2
   have HR452_3:=Aside0.mk hi452_3
   have HC452_3:=Aside0.mk hl452_3
   clear hi452_3 hl452_3
   replace p452:=eq_true p452
   replace q452:=eq_true q452
   go_wp2
   go_meet
   case rel=>exact ⟨_,(true),z9_3,H',⟨(by have:=HK1.out;have:=HJ1.out;first|omega|exact Nat.le_refl _)⟩,z6_3⟩
  rw [if_neg c8] at H
  have c8b0:decide (20<(((rd_T30 l0 x3_1).f1).length:Int))=false:=dF_ c8
  have c8b1:decide (20<((rd_T30 l0 x3_1).f1).length)=false:=dF_ (by omega)
  clear c8
  have H':=Aside0.mk H
  clear H
  have p452:0<=(x3_1:Int):=oD_ z6_1
  have q452:x3_1<(l0.length:Int):=oD_ z6_1
  obtain ⟨ad452,A452_2,c452_2,A452_3,c452_3,e452,hx452_0,hx452_1,hx452_2,hx452_3,hl452_2,hi452_2,hl452_3,hi452_3⟩:=at_T30 HR0.out x3_1 p452 q452
  cases e452
  have HR452_2:=Aside0.mk hi452_2
  have HC452_2:=Aside0.mk hl452_2
  clear hi452_2 hl452_2
  have HR452_3:=Aside0.mk hi452_3
  have HC452_3:=Aside0.mk hl452_3
  clear hi452_3 hl452_3
  replace p452:=eq_true p452
  replace q452:=eq_true q452
  have p453:0<=(x3_1:Int):=oD_ z6_1
  have q453:x3_1<(l0.length:Int):=oD_ z6_1
  obtain ⟨ad453,A453_2,c453_2,A453_3,c453_3,e453,hx453_0,hx453_1,hx453_2,hx453_3,hl453_2,hi453_2,hl453_3,hi453_3⟩:=at_T30 HR0.out x3_1 p453 q453
  obtain rfl:ad452=ad453:=(by injection e453)
  have HR453_2:=Aside0.mk hi453_2
  have HC453_2:=Aside0.mk hl453_2
  clear hi453_2 hl453_2
  have HR453_3:=Aside0.mk hi453_3
  have HC453_3:=Aside0.mk hl453_3
  clear hi453_3 hl453_3
  replace p453:=eq_true p453
  replace q453:=eq_true q453
  have ea_:=sI_ (hx452_2.symm.trans hx453_2)
  injection ea_ with ea_ en_ ec_
  subst ea_
  subst ec_
  clear en_
  have ea_:=sI_ (hx452_3.symm.trans hx453_3)
  injection ea_ with ea_ en_ ec_
  subst ea_
  subst ec_
  clear en_
  go_wp2
  go_meet
  case rel=>exact ⟨_,(decide ((((rd_T30 l0 x3_1).f2).length:Int) > 30)),z9_3,H',⟨(by have:=HK1.out;have:=HJ1.out;first|omega|exact Nat.le_refl _)⟩,z6_3⟩
 case rest =>
 clear HC5
 try clear c1
 try clear p2
 try clear c3
 try clear c3b0
 try clear c4
 try clear p4
 try clear q4
 try clear hx4
 try clear c6
 try clear c6b0
 try clear c7
 try clear c7b0
 try clear c8
 try clear c8b0
 try clear c8b1
 try clear hx452_0
 try clear hx452_1
 try clear hx452_2
 try clear hx452_3
 try clear hx453_0
 try clear hx453_1
 try clear hx453_2
 try clear hx453_3
 try clear p2
 try clear p452
 try clear p453
 try clear q452
 try clear q453
 obtain ⟨kq,x30_4,rfl,HA,HJ4,⟨mc4,rfl⟩⟩:=hcut
 cases kq with
 | zero=>exact absurd HA.out (by simp [w05_Light.j2])
 | succ kj4 =>
 have H:=HA.out
 clear HA
 simp only [w05_Light.j2] at H
 by_cases c9:x30_4=true
 ·subst c9
  have H1:(some false)=some r:=by rw [if_pos rfl] at H;exact H
  clear H
  have H:=H1
  clear H1
  obtain rfl:=sI_ H
  go_wp2
  go_ret
  exact ⟨z9_3,z6_3⟩
 replace c9:=Bool.eq_false_iff.mpr c9
 subst c9
 have H1:(w05_Light.l1 kj4 l0 x3_1 0)=some r:=by rw [if_neg (show ¬ (false=true) by decide)] at H;exact H
 clear H
 have H:=H1
 clear H1
 have H':=Aside0.mk H
 clear H
 go_wp2
 go_loopg [4] kj4 (λkq v4 w'=>∃ (x4_4:Int),v4 = .int .i64 x4_4/\Aside0 (w05_Light.l1 kq l0 x3_1 x4_4=some r)/\Aside0 (kq<=kj4)/\Drawn0 w w')
 case atStart=>exact ⟨(0),z9_3,H',⟨Nat.le_refl _⟩,z6_3⟩
 case round =>
 clear H'
 try clear c1
 try clear p2
 try clear c3
 try clear c3b0
 try clear c4
 try clear p4
 try clear q4
 try clear hx4
 try clear c6
 try clear c6b0
 try clear c7
 try clear c7b0
 try clear c8
 try clear c8b0
 try clear c8b1
 try clear c9
 try clear hx452_0
 try clear hx452_1
 try clear hx452_2
 try clear hx452_3
 try clear hx453_0
 try clear hx453_1
 try clear hx453_2
 try clear hx453_3
 try clear p2
 try clear p4
 try clear p452
 try clear p453
 try clear q4
 try clear q452
 try clear q453
 obtain ⟨x4_4,rfl,HA,HK4,⟨m4,rfl⟩⟩:=hrel
 cases gk with
 | zero=>exact absurd HA.out (by simp [w05_Light.l1])
 | succ k4 =>
 have H:=HA.out
 clear HA
 simp only [w05_Light.l1] at H
 by_cases c10:0<=x3_1
 rotate_left
 ·rw [if_neg c10] at H
  exact absurd H (by simp)
 rw [if_pos c10] at H
 have c10b0:decide (0<=x3_1)=true:=dT_ c10
 clear c10
 by_cases c11:x3_1<(l0.length:Int)
 rotate_left
 ·rw [if_neg c11] at H
  exact absurd H (by simp)
 rw [if_pos c11] at H
 have c11b0:decide (x3_1<(l0.length:Int))=true:=dT_ c11
 clear c11
 by_cases c12:x4_4<(((rd_T30 l0 x3_1).f2).length:Int)
 rotate_left
 ·rw [if_neg c12] at H
  have c12b0:decide (x4_4<(((rd_T30 l0 x3_1).f2).length:Int))=false:=dF_ c12
  clear c12
  have H':=Aside0.mk H
  clear H
  have p454:0<=(x3_1:Int):=oD_ z6_1
  have q454:x3_1<(l0.length:Int):=oD_ z6_1
  obtain ⟨ad454,A454_2,c454_2,A454_3,c454_3,e454,hx454_0,hx454_1,hx454_2,hx454_3,hl454_2,hi454_2,hl454_3,hi454_3⟩:=at_T30 HR0.out x3_1 p454 q454
  cases e454
  have HR454_2:=Aside0.mk hi454_2
  have HC454_2:=Aside0.mk hl454_2
  clear hi454_2 hl454_2
  have HR454_3:=Aside0.mk hi454_3
  have HC454_3:=Aside0.mk hl454_3
  clear hi454_3 hl454_3
  replace p454:=eq_true p454
  replace q454:=eq_true q454
  go_wp2
  go_roundg k4
  case measure=>have:=HK1.out;have:=HJ1.out;have:=HJ4.out;have:=HK4.out;omega
  case rel=>exact ⟨(wrap64 (x3_1+1)),z9_3,H',⟨(by have:=HK1.out;have:=HJ1.out;have:=HJ4.out;have:=HK4.out;omega)⟩,z6_3⟩
 rw [if_pos c12] at H
 have c12b0:decide (x4_4<(((rd_T30 l0 x3_1).f2).length:Int))=true:=dT_ c12
 clear c12
 by_cases c13:0<=x4_4
 rotate_left
 ·rw [if_neg c13] at H
  exact absurd H (by simp)
 rw [if_pos c13] at H
 have c13b0:decide (0<=x4_4)=true:=dT_ c13
 clear c13
 by_cases c14:(((rd_T48 ((rd_T30 l0 x3_1).f2) x4_4).f2).size:Int) > 100
 ·rw [if_pos c14] at H
  have c14b0:decide (100<(((rd_T48 ((rd_T30 l0 x3_1).f2) x4_4).f2).size:Int))=true:=dT_ c14
  have c14b1:decide (100<((rd_T48 ((rd_T30 l0 x3_1).f2) x4_4).f2).size)=true:=dT_ (by omega)
  clear c14
  obtain rfl:=sI_ H
  have p454:0<=(x3_1:Int):=oD_ z6_1
  have q454:x3_1<(l0.length:Int):=oD_ z6_1
  obtain ⟨ad454,A454_2,c454_2,A454_3,c454_3,e454,hx454_0,hx454_1,hx454_2,hx454_3,hl454_2,hi454_2,hl454_3,hi454_3⟩:=at_T30 HR0.out x3_1 p454 q454
  cases e454
  have HR454_2:=Aside0.mk hi454_2
  have HC454_2:=Aside0.mk hl454_2
  clear hi454_2 hl454_2
  have HR454_3:=Aside0.mk hi454_3
  have HC454_3:=Aside0.mk hl454_3
  clear hi454_3 hl454_3
  replace p454:=eq_true p454
  replace q454:=eq_true q454
  have p455:0<=(x3_1:Int):=oD_ z6_1
  have q455:x3_1<(l0.length:Int):=oD_ z6_1
  obtain ⟨ad455,A455_2,c455_2,A455_3,c455_3,e455,hx455_0,hx455_1,hx455_2,hx455_3,hl455_2,hi455_2,hl455_3,hi455_3⟩:=at_T30 HR0.out x3_1 p455 q455
  obtain rfl:ad454=ad455:=(by injection e455)
  have HR455_2:=Aside0.mk hi455_2
  have HC455_2:=Aside0.mk hl455_2
  clear hi455_2 hl455_2
  have HR455_3:=Aside0.mk hi455_3
  have HC455_3:=Aside0.mk hl455_3
  clear hi455_3 hl455_3
  replace p455:=eq_true p455
  replace q455:=eq_true q455
  have ea_:=sI_ (hx454_2.symm.trans hx455_2)
  injection ea_ with ea_ en_ ec_
  subst ea_
  subst ec_
  clear en_
  have ea_:=sI_ (hx454_3.symm.trans hx455_3)
  injection ea_ with ea_ en_ ec_
  subst ea_
  subst ec_
  clear en_
  have p456:0<=(x4_4:Int):=oD_ z6_1
  have q456:x4_4<(((rd_T30 l0 x3_1).f2).length:Int):=oD_ z6_1
  obtain ⟨ad456,e456,hx456_0,hx456_1,hx456_2,hx456_3,hx456_4,hx456_5⟩:=at_T48 HR455_3.out x4_4 p456 q456
  cases e456
  replace p456:=eq_true p456
  replace q456:=eq_true q456
  go_wp2
  go_ret
  exact ⟨z9_3,z6_3⟩
 rw [if_neg c14] at H
 have c14b0:decide (100<(((rd_T48 ((rd_T30 l0 x3_1).f2) x4_4).f2).size:Int))=false:=dF_ c14
 have c14b1:decide (100<((rd_T48 ((rd_T30 l0 x3_1).f2) x4_4).f2).size)=false:=dF_ (by omega)
 clear c14
 by_cases c15:(((rd_T48 ((rd_T30 l0 x3_1).f2) x4_4).f5).size:Int) > 100
 ·rw [if_pos c15] at H
  have c15b0:decide (100<(((rd_T48 ((rd_T30 l0 x3_1).f2) x4_4).f5).size:Int))=true:=dT_ c15
  have c15b1:decide (100<((rd_T48 ((rd_T30 l0 x3_1).f2) x4_4).f5).size)=true:=dT_ (by omega)
  clear c15
  obtain rfl:=sI_ H
  have p454:0<=(x3_1:Int):=oD_ z6_1
  have q454:x3_1<(l0.length:Int):=oD_ z6_1
  obtain ⟨ad454,A454_2,c454_2,A454_3,c454_3,e454,hx454_0,hx454_1,hx454_2,hx454_3,hl454_2,hi454_2,hl454_3,hi454_3⟩:=at_T30 HR0.out x3_1 p454 q454
  cases e454
  have HR454_2:=Aside0.mk hi454_2
  have HC454_2:=Aside0.mk hl454_2
  clear hi454_2 hl454_2
  have HR454_3:=Aside0.mk hi454_3
  have HC454_3:=Aside0.mk hl454_3
  clear hi454_3 hl454_3
  replace p454:=eq_true p454
  replace q454:=eq_true q454
  have p455:0<=(x3_1:Int):=oD_ z6_1
  have q455:x3_1<(l0.length:Int):=oD_ z6_1
  obtain ⟨ad455,A455_2,c455_2,A455_3,c455_3,e455,hx455_0,hx455_1,hx455_2,hx455_3,hl455_2,hi455_2,hl455_3,hi455_3⟩:=at_T30 HR0.out x3_1 p455 q455
  obtain rfl:ad454=ad455:=(by injection e455)
  have HR455_2:=Aside0.mk hi455_2
  have HC455_2:=Aside0.mk hl455_2
  clear hi455_2 hl455_2
  have HR455_3:=Aside0.mk hi455_3
  have HC455_3:=Aside0.mk hl455_3
  clear hi455_3 hl455_3
  replace p455:=eq_true p455
  replace q455:=eq_true q455
  have ea_:=sI_ (hx454_2.symm.trans hx455_2)
  injection ea_ with ea_ en_ ec_
  subst ea_
  subst ec_
  clear en_
  have ea_:=sI_ (hx454_3.symm.trans hx455_3)
  injection ea_ with ea_ en_ ec_
  subst ea_
  subst ec_
  clear en_
  have p456:0<=(x4_4:Int):=oD_ z6_1
  have q456:x4_4<(((rd_T30 l0 x3_1).f2).length:Int):=oD_ z6_1
  obtain ⟨ad456,e456,hx456_0,hx456_1,hx456_2,hx456_3,hx456_4,hx456_5⟩:=at_T48 HR455_3.out x4_4 p456 q456
  cases e456
  replace p456:=eq_true p456
  replace q456:=eq_true q456
  have p457:0<=(x3_1:Int):=oD_ z6_1
  have q457:x3_1<(l0.length:Int):=oD_ z6_1
  obtain ⟨ad457,A457_2,c457_2,A457_3,c457_3,e457,hx457_0,hx457_1,hx457_2,hx457_3,hl457_2,hi457_2,hl457_3,hi457_3⟩:=at_T30 HR0.out x3_1 p457 q457
  obtain rfl:ad454=ad457:=(by injection e457)
  have HR457_2:=Aside0.mk hi457_2
  have HC457_2:=Aside0.mk hl457_2
  clear hi457_2 hl457_2
  have HR457_3:=Aside0.mk hi457_3
  have HC457_3:=Aside0.mk hl457_3
  clear hi457_3 hl457_3
  replace p457:=eq_true p457
  replace q457:=eq_true q457
  have ea_:=sI_ (hx454_2.symm.trans hx457_2)
  injection ea_ with ea_ en_ ec_
  subst ea_
  subst ec_
  clear en_
  have ea_:=sI_ (hx454_3.symm.trans hx457_3)
  injection ea_ with ea_ en_ ec_
  subst ea_
  subst ec_
  clear en_
  have p458:0<=(x4_4:Int):=oD_ z6_1
  have q458:x4_4<(((rd_T30 l0 x3_1).f2).length:Int):=oD_ z6_1
  obtain ⟨ad458,e458,hx458_0,hx458_1,hx458_2,hx458_3,hx458_4,hx458_5⟩:=at_T48 HR457_3.out x4_4 p458 q458
  cases e458
  replace p458:=eq_true p458
  replace q458:=eq_true q458
  go_wp2
  go_ret
  exact ⟨z9_3,z6_3⟩
 rw [if_neg c15] at H
 have c15b0:decide (100<(((rd_T48 ((rd_T30 l0 x3_1).f2) x4_4).f5).size:Int))=false:=dF_ c15
 have c15b1:decide (100<((rd_T48 ((rd_T30 l0 x3_1).f2) x4_4).f5).size)=false:=dF_ (by omega)
 clear c15
 have H':=Aside0.mk H
 clear H
 have p454:0<=(x3_1:Int):=oD_ z6_1
 have q454:x3_1<(l0.length:Int):=oD_ z6_1
 obtain ⟨ad454,A454_2,c454_2,A454_3,c454_3,e454,hx454_0,hx454_1,hx454_2,hx454_3,hl454_2,hi454_2,hl454_3,hi454_3⟩:=at_T30 HR0.out x3_1 p454 q454
 cases e454
 have HR454_2:=Aside0.mk hi454_2
 have HC454_2:=Aside0.mk hl454_2
 clear hi454_2 hl454_2
 have HR454_3:=Aside0.mk hi454_3
 have HC454_3:=Aside0.mk hl454_3
 clear hi454_3 hl454_3
 replace p454:=eq_true p454
 replace q454:=eq_true q454
 have p455:0<=(x3_1:Int):=oD_ z6_1
 have q455:x3_1<(l0.length:Int):=oD_ z6_1
 obtain ⟨ad455,A455_2,c455_2,A455_3,c455_3,e455,hx455_0,hx455_1,hx455_2,hx455_3,hl455_2,hi455_2,hl455_3,hi455_3⟩:=at_T30 HR0.out x3_1 p455 q455
 obtain rfl:ad454=ad455:=(by injection e455)
 have HR455_2:=Aside0.mk hi455_2
 have HC455_2:=Aside0.mk hl455_2
 clear hi455_2 hl455_2
 have HR455_3:=Aside0.mk hi455_3
 have HC455_3:=Aside0.mk hl455_3
 clear hi455_3 hl455_3
 replace p455:=eq_true p455
 replace q455:=eq_true q455
 have ea_:=sI_ (hx454_2.symm.trans hx455_2)
 injection ea_ with ea_ en_ ec_
 subst ea_
 subst ec_
 clear en_
 have ea_:=sI_ (hx454_3.symm.trans hx455_3)
 injection ea_ with ea_ en_ ec_
 subst ea_
 subst ec_
 clear en_
 have p456:0<=(x4_4:Int):=oD_ z6_1
 have q456:x4_4<(((rd_T30 l0 x3_1).f2).length:Int):=oD_ z6_1
 obtain ⟨ad456,e456,hx456_0,hx456_1,hx456_2,hx456_3,hx456_4,hx456_5⟩:=at_T48 HR455_3.out x4_4 p456 q456
 cases e456
 replace p456:=eq_true p456
 replace q456:=eq_true q456
 have p457:0<=(x3_1:Int):=oD_ z6_1
 have q457:x3_1<(l0.length:Int):=oD_ z6_1
 obtain ⟨ad457,A457_2,c457_2,A457_3,c457_3,e457,hx457_0,hx457_1,hx457_2,hx457_3,hl457_2,hi457_2,hl457_3,hi457_3⟩:=at_T30 HR0.out x3_1 p457 q457
 obtain rfl:ad454=ad457:=(by injection e457)
 have HR457_2:=Aside0.mk hi457_2
 have HC457_2:=Aside0.mk hl457_2
 clear hi457_2 hl457_2
 have HR457_3:=Aside0.mk hi457_3
 have HC457_3:=Aside0.mk hl457_3
 clear hi457_3 hl457_3
 replace p457:=eq_true p457
 replace q457:=eq_true q457
 have ea_:=sI_ (hx454_2.symm.trans hx457_2)
 injection ea_ with ea_ en_ ec_
 subst ea_
 subst ec_
 clear en_
 have ea_:=sI_ (hx454_3.symm.trans hx457_3)
 injection ea_ with ea_ en_ ec_
 subst ea_
 subst ec_
 clear en_
 have p458:0<=(x4_4:Int):=oD_ z6_1
 have q458:x4_4<(((rd_T30 l0 x3_1).f2).length:Int):=oD_ z6_1
 obtain ⟨ad458,e458,hx458_0,hx458_1,hx458_2,hx458_3,hx458_4,hx458_5⟩:=at_T48 HR457_3.out x4_4 p458 q458
 cases e458
 replace p458:=eq_true p458
 replace q458:=eq_true q458
 go_wp2
 go_roundg k4
 case measure=>have:=HK1.out;have:=HJ1.out;have:=HJ4.out;have:=HK4.out;omega
 case rel=>exact ⟨(wrap64 (x4_4+1)),z9_3,H',⟨(by have:=HK1.out;have:=HJ1.out;have:=HJ4.out;have:=HK4.out;omega)⟩,z6_3⟩
end Go.Proofs.Ytgocnchjpecafaa.PEv
