/- a part -/
import Derived.Test.YtfhamdobagjakaaPJox0
namespace Go.Proofs.Ytfhamdobagjakaa.PJo
open Go.RowKit Go.Proofs.YtfhamdobagjakaaW.PrintWords Go.Proofs.YtfhamdobagjakaaW.PrintLast Go.Proofs.YtfhamdobagjakaaW.PrintMore
attribute [local go_sem] max2_int min2_int max_two min_two max_three min_three max_four min_four
set_option linter.unusedVariables false
set_option linter.unusedSimpArgs false
set_option maxHeartbeats 8000000
set_option maxRecDepth 100000
theorem z5_0 {P:Prop} (h:P:=by first|(with_reducible assumption)|assumption):P:=h
theorem z5_1 {P:Prop} (h:P:=by repeat(first|exact Drawn0.refl _|apply Drawn0.step)):P:=h
theorem z5_2 {P:Prop} (h:P:=by first|rfl|(simp;done)|(simp [*];done)):P:=h
theorem z5_3 {P:Prop} (h:P:=by repeat(first|exact HR214_1.out|(with_reducible refine Kd.C_alloc ?_ _)|(with_reducible refine Kd.C_drewN ?_ _)|(with_reducible refine Kd.C_drew ?_))):P:=h
mutual
def w07_Light.l0:Nat->List (S34)->Int->Int->Option (Bool)
 | 0,_,_,_=>none
 | k+1,x0,x3,x4=>if x4<(x0.length:Int) then(w07_Light.j1 k x0 x3 x4 (decide (x4<=30))) else(w07_Light.j1 k x0 x3 x4 false)
def w07_Light.j1:Nat->List (S34)->Int->Int->Bool->Option (Bool)
 | 0,_,_,_,_=>none
 | k+1,x0,x3,x4,x13=>if x13=true then(if 0<=x4 then(if x4<(x0.length:Int) then(if (((rd_T34 x0 x4).f1).length:Int) > 10 then(some false) else(w07_Light.l1 k x0 x3 x4 0)) else(none)) else(none)) else(some (decide ((x0.length:Int)<=30)))
def w07_Light.l1:Nat->List (S34)->Int->Int->Int->Option (Bool)
 | 0,_,_,_,_=>none
 | k+1,x0,x3,x4,x5=>if 0<=x4 then(if x4<(x0.length:Int) then(if x5<(((rd_T34 x0 x4).f1).length:Int) then(if 0<=x5 then(if (wrap64 (x3+(((rd_T92 ((rd_T34 x0 x4).f1) x5).f1).length:Int))) > 6000 then(some false) else(w07_Light.l1 k x0 (wrap64 (x3+(((rd_T92 ((rd_T34 x0 x4).f1) x5).f1).length:Int))) x4 (wrap64 (x5+1)))) else(none)) else(w07_Light.l0 k x0 x3 (wrap64 (x4+1)))) else(none)) else(none)
end
def w07_Light.f (k:Nat) (l0:List (S34)):Option (Bool):=w07_Light.l0 k l0 0 0
theorem w07_Light.calls (k:Nat) (A0:Option Addr) (c0:Nat) (l0:List (S34)) (r:Bool) (w:World) (hr0:Kd.C k34 w A0 l0.length l0) (hc0:l0.length<=c0) (h:w07_Light.f k l0=some r) :
  Calls Try.prog 10 #[.slice A0 l0.length c0] w λe w'=>e = .returned (.bool r)/\Drawn0 w w':=by
 have HR0:=Aside0.mk hr0
 have HC0:=Aside0.mk hc0
 clear hr0 hc0
 have H:(w07_Light.l0 k l0 0 0)=some r:=h
 clear h
 have H':=Aside0.mk H
 clear H
 go_enter Try.func10,Try.ntmps10
 go_wp2
 go_loopg [3,4] k (λkq v3 v4 w'=>∃ (x3_1:Int) (x4_1:Int),v3 = .int .i64 x3_1/\v4 = .int .i64 x4_1/\Aside0 (w07_Light.l0 kq l0 x3_1 x4_1=some r)/\Aside0 (kq<=k)/\Drawn0 w w')
 case atStart=>exact ⟨(0),(0),z5_2,z5_2,H',⟨Nat.le_refl _⟩,z5_1⟩
 case round =>
 clear H'
 try clear c1
 obtain ⟨x3_1,x4_1,rfl,rfl,HA,HK1,⟨m1,rfl⟩⟩:=hrel
 cases gk with
 | zero=>exact absurd HA.out (by simp [w07_Light.l0])
 | succ k1 =>
 have H:=HA.out
 clear HA
 simp only [w07_Light.l0] at H
 have HC2:=Aside0.mk H
 clear H
 go_upto_region 3 with (fail)
 go_cut [13] (λv13 wc=>∃ (kq:Nat) (x13_1:Bool),v13 = .bool x13_1/\Aside0 (w07_Light.j1 kq l0 x3_1 x4_1 x13_1=some r)/\Aside0 (kq<=k1)/\Drawn0 w wc)
 case first =>
  have H:=HC2.out
  clear HC2
  by_cases c3:x4_1<(l0.length:Int)
  ·rw [if_pos c3] at H
   have c3b0:decide (x4_1<(l0.length:Int))=true:=dT_ c3
   clear c3
   (first|rw [c3b0]|(simp only [i64_w,i32_w];rw [c3b0])|skip)
   have H':=Aside0.mk H
   clear H
   go_wp2
   go_meet
   case rel=>exact ⟨_,(decide (x4_1<=30)),z5_2,H',⟨(by have:=HK1.out;first|omega|exact Nat.le_refl _)⟩,z5_1⟩
  rw [if_neg c3] at H
  have c3b0:decide (x4_1<(l0.length:Int))=false:=dF_ c3
  clear c3
  (first|rw [c3b0]|(simp only [i64_w,i32_w];rw [c3b0])|skip)
  have H':=Aside0.mk H
  clear H
  go_wp2
  go_meet
  case rel=>exact ⟨_,(false),z5_2,H',⟨(by have:=HK1.out;first|omega|exact Nat.le_refl _)⟩,z5_1⟩
 case rest =>
 clear HC2
 try clear c1
 try clear p2
 try clear c3
 try clear c3b0
 obtain ⟨kq,x13_1,rfl,HA,HJ1,⟨mc1,rfl⟩⟩:=hcut
 cases kq with
 | zero=>exact absurd HA.out (by simp [w07_Light.j1])
 | succ kj1 =>
 have H:=HA.out
 clear HA
 simp only [w07_Light.j1] at H
 by_cases c4:x13_1=true
 rotate_left
 ·replace c4:=Bool.eq_false_iff.mpr c4
  subst c4
  have H1:(some (decide ((l0.length:Int)<=30)))=some r:=by rw [if_neg (show ¬ (false=true) by decide)] at H;exact H
  clear H
  have H:=H1
  clear H1
  obtain rfl:=sI_ H
  go_wp2
  go_ret
  exact ⟨z5_2,z5_1⟩
 subst c4
 have H1:(if 0<=x4_1 then(if x4_1<(l0.length:Int) then(if (((rd_T34 l0 x4_1).f1).length:Int) > 10 then(some false) else(w07_Light.l1 kj1 l0 x3_1 x4_1 0)) else(none)) else(none))=some r:=by rw [if_pos rfl] at H;exact H
 clear H
 have H:=H1
 clear H1
 by_cases c5:0<=x4_1
 rotate_left
 ·rw [if_neg c5] at H
  exact absurd H (by simp)
 rw [if_pos c5] at H
 have c5b0:decide (0<=x4_1)=true:=dT_ c5
 clear c5
 by_cases c6:x4_1<(l0.length:Int)
 rotate_left
 ·rw [if_neg c6] at H
  exact absurd H (by simp)
 rw [if_pos c6] at H
 have c6b0:decide (x4_1<(l0.length:Int))=true:=dT_ c6
 clear c6
 by_cases c7:(((rd_T34 l0 x4_1).f1).length:Int) > 10
 ·rw [if_pos c7] at H
  have c7b0:decide (10<(((rd_T34 l0 x4_1).f1).length:Int))=true:=dT_ c7
  have c7b1:decide (10<((rd_T34 l0 x4_1).f1).length)=true:=dT_ (by omega)
  clear c7
  obtain rfl:=sI_ H
  have p208:0<=(x4_1:Int):=oD_ z5_0
  have q208:x4_1<(l0.length:Int):=oD_ z5_0
  obtain ⟨ad208,A208_1,c208_1,e208,hx208_0,hx208_1,hl208_1,hi208_1⟩:=at_T34 HR0.out x4_1 p208 q208
  cases e208
  have HR208_1:=Aside0.mk hi208_1
  have HC208_1:=Aside0.mk hl208_1
  clear hi208_1 hl208_1
  replace p208:=eq_true p208
  replace q208:=eq_true q208
  go_wp2
  go_ret
  exact ⟨z5_2,z5_1⟩
 rw [if_neg c7] at H
 have c7b0:decide (10<(((rd_T34 l0 x4_1).f1).length:Int))=false:=dF_ c7
 have c7b1:decide (10<((rd_T34 l0 x4_1).f1).length)=false:=dF_ (by omega)
 clear c7
 have H':=Aside0.mk H
 clear H
 have p208:0<=(x4_1:Int):=oD_ z5_0
 have q208:x4_1<(l0.length:Int):=oD_ z5_0
 obtain ⟨ad208,A208_1,c208_1,e208,hx208_0,hx208_1,hl208_1,hi208_1⟩:=at_T34 HR0.out x4_1 p208 q208
 cases e208
 have HR208_1:=Aside0.mk hi208_1
 have HC208_1:=Aside0.mk hl208_1
 clear hi208_1 hl208_1
 replace p208:=eq_true p208
 replace q208:=eq_true q208
 go_wp2
 go_loopg [3,5] kj1 (λkq v3 v5 w'=>∃ (x3_3:Int) (x5_3:Int),v3 = .int .i64 x3_3/\v5 = .int .i64 x5_3/\Aside0 (w07_Light.l1 kq l0 x3_3 x4_1 x5_3=some r)/\Aside0 (kq<=kj1)/\Drawn0 w w')
 case atStart=>exact ⟨(x3_1),(0),z5_2,z5_2,H',⟨Nat.le_refl _⟩,z5_1⟩
 case round =>
 clear H'
 try clear c1
 try clear c2
 try clear p2
 try clear q2
 try clear hx2
 try clear c3
 try clear c3b0
 try clear c4
 try clear c5
 try clear c5b0
 try clear c6
 try clear c6b0
 try clear c7
 try clear c7b0
 try clear c7b1
 try clear hx208_0
 try clear hx208_1
 try clear p2
 try clear p208
 try clear q208
 obtain ⟨x3_3,x5_3,rfl,rfl,HA,HK3,⟨m3,rfl⟩⟩:=hrel
 cases gk with
 | zero=>exact absurd HA.out (by simp [w07_Light.l1])
 | succ k3 =>
 have H:=HA.out
 clear HA
 simp only [w07_Light.l1] at H
 by_cases c8:0<=x4_1
 rotate_left
 ·rw [if_neg c8] at H
  exact absurd H (by simp)
 rw [if_pos c8] at H
 have c8b0:decide (0<=x4_1)=true:=dT_ c8
 clear c8
 by_cases c9:x4_1<(l0.length:Int)
 rotate_left
 ·rw [if_neg c9] at H
  exact absurd H (by simp)
 rw [if_pos c9] at H
 have c9b0:decide (x4_1<(l0.length:Int))=true:=dT_ c9
 clear c9
 by_cases c10:x5_3<(((rd_T34 l0 x4_1).f1).length:Int)
 rotate_left
 ·rw [if_neg c10] at H
  have c10b0:decide (x5_3<(((rd_T34 l0 x4_1).f1).length:Int))=false:=dF_ c10
  clear c10
  have H':=Aside0.mk H
  clear H
  have p209:0<=(x4_1:Int):=oD_ z5_0
  have q209:x4_1<(l0.length:Int):=oD_ z5_0
  obtain ⟨ad209,A209_1,c209_1,e209,hx209_0,hx209_1,hl209_1,hi209_1⟩:=at_T34 HR0.out x4_1 p209 q209
  obtain rfl:ad208=ad209:=(by injection e209)
  have HR209_1:=Aside0.mk hi209_1
  have HC209_1:=Aside0.mk hl209_1
  clear hi209_1 hl209_1
  replace p209:=eq_true p209
  replace q209:=eq_true q209
  go_wp2
  go_roundg k3
  case measure=>have:=HK1.out;have:=HJ1.out;have:=HK3.out;omega
  case rel=>exact ⟨(x3_3),(wrap64 (x4_1+1)),z5_2,z5_2,H',⟨(by have:=HK1.out;have:=HJ1.out;have:=HK3.out;omega)⟩,z5_1⟩
 rw [if_pos c10] at H
 have c10b0:decide (x5_3<(((rd_T34 l0 x4_1).f1).length:Int))=true:=dT_ c10
 clear c10
 by_cases c11:0<=x5_3
 rotate_left
 ·rw [if_neg c11] at H
  exact absurd H (by simp)
 rw [if_pos c11] at H
 have c11b0:decide (0<=x5_3)=true:=dT_ c11
 clear c11
 by_cases c12:(wrap64 (x3_3+(((rd_T92 ((rd_T34 l0 x4_1).f1) x5_3).f1).length:Int))) > 6000
 ·rw [if_pos c12] at H
  have c12b0:decide (6000<(wrap64 (x3_3+(((rd_T92 ((rd_T34 l0 x4_1).f1) x5_3).f1).length:Int))))=true:=dT_ c12
  clear c12
  obtain rfl:=sI_ H
  have p209:0<=(x4_1:Int):=oD_ z5_0
  have q209:x4_1<(l0.length:Int):=oD_ z5_0
  obtain ⟨ad209,A209_1,c209_1,e209,hx209_0,hx209_1,hl209_1,hi209_1⟩:=at_T34 HR0.out x4_1 p209 q209
  obtain rfl:ad208=ad209:=(by injection e209)
  have HR209_1:=Aside0.mk hi209_1
  have HC209_1:=Aside0.mk hl209_1
  clear hi209_1 hl209_1
  replace p209:=eq_true p209
  replace q209:=eq_true q209
  have p210:0<=(x4_1:Int):=oD_ z5_0
  have q210:x4_1<(l0.length:Int):=oD_ z5_0
  obtain ⟨ad210,A210_1,c210_1,e210,hx210_0,hx210_1,hl210_1,hi210_1⟩:=at_T34 HR0.out x4_1 p210 q210
  obtain rfl:ad208=ad210:=(by injection e210)
  have HR210_1:=Aside0.mk hi210_1
  have HC210_1:=Aside0.mk hl210_1
  clear hi210_1 hl210_1
  replace p210:=eq_true p210
  replace q210:=eq_true q210
  have ea_:=sI_ (hx209_1.symm.trans hx210_1)
  injection ea_ with ea_ en_ ec_
  subst ea_
  subst ec_
  clear en_
  have p211:0<=(x5_3:Int):=oD_ z5_0
  have q211:x5_3<(((rd_T34 l0 x4_1).f1).length:Int):=oD_ z5_0
  obtain ⟨ad211,A211_1,c211_1,e211,hx211_0,hx211_1,hl211_1,hi211_1⟩:=at_T92 HR210_1.out x5_3 p211 q211
  cases e211
  have HR211_1:=Aside0.mk hi211_1
  have HC211_1:=Aside0.mk hl211_1
  clear hi211_1 hl211_1
  replace p211:=eq_true p211
  replace q211:=eq_true q211
  go_wp2
  go_ret
  exact ⟨z5_2,z5_1⟩
 rw [if_neg c12] at H
 have c12b0:decide (6000<(wrap64 (x3_3+(((rd_T92 ((rd_T34 l0 x4_1).f1) x5_3).f1).length:Int))))=false:=dF_ c12
 clear c12
 have H':=Aside0.mk H
 clear H
 have p209:0<=(x4_1:Int):=oD_ z5_0
 have q209:x4_1<(l0.length:Int):=oD_ z5_0
 obtain ⟨ad209,A209_1,c209_1,e209,hx209_0,hx209_1,hl209_1,hi209_1⟩:=at_T34 HR0.out x4_1 p209 q209
 obtain rfl:ad208=ad209:=(by injection e209)
 have HR209_1:=Aside0.mk hi209_1
 have HC209_1:=Aside0.mk hl209_1
 clear hi209_1 hl209_1
 replace p209:=eq_true p209
 replace q209:=eq_true q209
 have p210:0<=(x4_1:Int):=oD_ z5_0
 have q210:x4_1<(l0.length:Int):=oD_ z5_0
 obtain ⟨ad210,A210_1,c210_1,e210,hx210_0,hx210_1,hl210_1,hi210_1⟩:=at_T34 HR0.out x4_1 p210 q210
 obtain rfl:ad208=ad210:=(by injection e210)
 have HR210_1:=Aside0.mk hi210_1
 have HC210_1:=Aside0.mk hl210_1
 clear hi210_1 hl210_1
 replace p210:=eq_true p210
 replace q210:=eq_true q210
 have ea_:=sI_ (hx209_1.symm.trans hx210_1)
 injection ea_ with ea_ en_ ec_
 subst ea_
 subst ec_
 clear en_
 have p211:0<=(x5_3:Int):=oD_ z5_0
 have q211:x5_3<(((rd_T34 l0 x4_1).f1).length:Int):=oD_ z5_0
 obtain ⟨ad211,A211_1,c211_1,e211,hx211_0,hx211_1,hl211_1,hi211_1⟩:=at_T92 HR210_1.out x5_3 p211 q211
 cases e211
 have HR211_1:=Aside0.mk hi211_1
 have HC211_1:=Aside0.mk hl211_1
 clear hi211_1 hl211_1
 replace p211:=eq_true p211
 replace q211:=eq_true q211
 go_wp2
 go_roundg k3
 case measure=>have:=HK1.out;have:=HJ1.out;have:=HK3.out;omega
 case rel=>exact ⟨(wrap64 (x3_3+(((rd_T92 ((rd_T34 l0 x4_1).f1) x5_3).f1).length:Int))),(wrap64 (x5_3+1)),z5_2,z5_2,H',⟨(by have:=HK1.out;have:=HJ1.out;have:=HK3.out;omega)⟩,z5_1⟩
def r02_May.f (a0:Int) (l1:List Int):Option (Bool):=if a0>=1 then(if a0<=200 then(some (decide ((l1.length:Int)<=65536))) else(some false)) else(some false)
theorem r02_May.calls (a0:Int) (A1:Option Addr) (c1:Nat) (l1:List Int) (r:Bool) (w:World) (hr1:Kd.C (Kd.int .u8) w A1 l1.length l1) (hc1:l1.length<=c1) (h:r02_May.f a0 l1=some r) :
  Calls Try.prog 45 #[.int .i64 a0,.slice A1 l1.length c1] w λe w'=>e = .returned (.bool r)/\Drawn0 w w':=by
 have HR1:=Aside0.mk hr1
 have HC1:=Aside0.mk hc1
 clear hr1 hc1
 have H:(if a0>=1 then(if a0<=200 then(some (decide ((l1.length:Int)<=65536))) else(some false)) else(some false))=some r:=h
 clear h
 by_cases c3:a0>=1
 rotate_left
 ·rw [if_neg c3] at H
  have c3b0:decide (1<=a0)=false:=dF_ c3
  clear c3
  obtain rfl:=sI_ H
  go_enter Try.func45,Try.ntmps45
  go_wp2
  go_ret
  exact ⟨z5_2,z5_1⟩
 rw [if_pos c3] at H
 have c3b0:decide (1<=a0)=true:=dT_ c3
 clear c3
 by_cases c4:a0<=200
 ·rw [if_pos c4] at H
  have c4b0:decide (a0<=200)=true:=dT_ c4
  clear c4
  obtain rfl:=sI_ H
  go_enter Try.func45,Try.ntmps45
  go_wp2
  go_ret
  exact ⟨z5_2,z5_1⟩
 rw [if_neg c4] at H
 have c4b0:decide (a0<=200)=false:=dF_ c4
 clear c4
 obtain rfl:=sI_ H
 go_enter Try.func45,Try.ntmps45
 go_wp2
 go_ret
 exact ⟨z5_2,z5_1⟩
def r07_May.l0:Nat->List (S92)->Int->Option (Bool)
 | 0,_,_=>none
 | k+1,x0,x3=>if x3<(x0.length:Int) then(if 0<=x3 then(if ((rd_T92 x0 x3).f0)<10 then(some false) else((r02_May.f ((rd_T92 x0 x3).f0) ((rd_T92 x0 x3).f1)).bind λt215=>(if t215=true then(r07_May.l0 k x0 (wrap64 (x3+1))) else(some false)))) else(none)) else(some true)
def r07_May.f (k:Nat) (l0:List (S92)):Option (Bool):=r07_May.l0 k l0 0
theorem r07_May.calls (k:Nat) (A0:Option Addr) (c0:Nat) (l0:List (S92)) (r:Bool) (w:World) (hr0:Kd.C k92 w A0 l0.length l0) (hc0:l0.length<=c0) (h:r07_May.f k l0=some r) :
  Calls Try.prog 15 #[.slice A0 l0.length c0] w λe w'=>e = .returned (.bool r)/\Drawn0 w w':=by
 have HR0:=Aside0.mk hr0
 have HC0:=Aside0.mk hc0
 clear hr0 hc0
 have H:(r07_May.l0 k l0 0)=some r:=h
 clear h
 have H':=Aside0.mk H
 clear H
 go_enter Try.func15,Try.ntmps15
 go_wp2
 repeat(go_quiet (fail);try go_wp2)
 go_loopg [3] k (λkq v3 w'=>∃ (x3_1:Int),v3 = .int .i64 x3_1/\Aside0 (r07_May.l0 kq l0 x3_1=some r)/\Aside0 (kq<=k)/\Drawn0 w w')
 case atStart=>exact ⟨(0),z5_2,H',⟨Nat.le_refl _⟩,z5_1⟩
 case round =>
 clear H'
 try clear c1
 obtain ⟨x3_1,rfl,HA,HK1,⟨m1,rfl⟩⟩:=hrel
 cases gk with
 | zero=>exact absurd HA.out (by simp [r07_May.l0])
 | succ k1 =>
 have H:=HA.out
 clear HA
 simp only [r07_May.l0] at H
 by_cases c2:x3_1<(l0.length:Int)
 rotate_left
 ·rw [if_neg c2] at H
  have c2b0:decide (x3_1<(l0.length:Int))=false:=dF_ c2
  clear c2
  obtain rfl:=sI_ H
  go_wp2
  repeat(go_quiet (fail);try go_wp2)
  go_ret
  exact ⟨z5_2,z5_1⟩
 rw [if_pos c2] at H
 have c2b0:decide (x3_1<(l0.length:Int))=true:=dT_ c2
 clear c2
 by_cases c3:0<=x3_1
 rotate_left
 ·rw [if_neg c3] at H
  exact absurd H (by simp)
 rw [if_pos c3] at H
 have c3b0:decide (0<=x3_1)=true:=dT_ c3
 clear c3
 by_cases c4:((rd_T92 l0 x3_1).f0)<10
 ·rw [if_pos c4] at H
  have c4b0:decide (((rd_T92 l0 x3_1).f0)<10)=true:=dT_ c4
  clear c4
  obtain rfl:=sI_ H
  have p212:0<=(x3_1:Int):=oD_ z5_0
  have q212:x3_1<(l0.length:Int):=oD_ z5_0
  obtain ⟨ad212,A212_1,c212_1,e212,hx212_0,hx212_1,hl212_1,hi212_1⟩:=at_T92 HR0.out x3_1 p212 q212
  cases e212
  have HR212_1:=Aside0.mk hi212_1
  have HC212_1:=Aside0.mk hl212_1
  clear hi212_1 hl212_1
  replace p212:=eq_true p212
  replace q212:=eq_true q212
  go_wp2
  repeat(go_quiet (fail);try go_wp2)
  go_ret
  exact ⟨z5_2,z5_1⟩
 rw [if_neg c4] at H
 have c4b0:decide (((rd_T92 l0 x3_1).f0)<10)=false:=dF_ c4
 clear c4
 replace H:=oB_ H
 obtain ⟨t215,A50,H⟩:=H
 replace H:(if t215=true then(r07_May.l0 k1 l0 (wrap64 (x3_1+1))) else(some false))=some r:=H
 have A5:=Aside0.mk A50
 clear A50
 by_cases c6:t215=true
 rotate_left
 ·replace c6:=Bool.eq_false_iff.mpr c6
  subst c6
  have H1:(some false)=some r:=by rw [if_neg (show ¬ (false=true) by decide)] at H;exact H
  clear H
  have H:=H1
  clear H1
  obtain rfl:=sI_ H
  have p212:0<=(x3_1:Int):=oD_ z5_0
  have q212:x3_1<(l0.length:Int):=oD_ z5_0
  obtain ⟨ad212,A212_1,c212_1,e212,hx212_0,hx212_1,hl212_1,hi212_1⟩:=at_T92 HR0.out x3_1 p212 q212
  cases e212
  have HR212_1:=Aside0.mk hi212_1
  have HC212_1:=Aside0.mk hl212_1
  clear hi212_1 hl212_1
  replace p212:=eq_true p212
  replace q212:=eq_true q212
  have p213:0<=(x3_1:Int):=oD_ z5_0
  have q213:x3_1<(l0.length:Int):=oD_ z5_0
  obtain ⟨ad213,A213_1,c213_1,e213,hx213_0,hx213_1,hl213_1,hi213_1⟩:=at_T92 HR0.out x3_1 p213 q213
  obtain rfl:ad212=ad213:=(by injection e213)
  have HR213_1:=Aside0.mk hi213_1
  have HC213_1:=Aside0.mk hl213_1
  clear hi213_1 hl213_1
  replace p213:=eq_true p213
  replace q213:=eq_true q213
  have ea_:=sI_ (hx212_1.symm.trans hx213_1)
  injection ea_ with ea_ en_ ec_
  subst ea_
  subst ec_
  clear en_
  have p214:0<=(x3_1:Int):=oD_ z5_0
  have q214:x3_1<(l0.length:Int):=oD_ z5_0
  obtain ⟨ad214,A214_1,c214_1,e214,hx214_0,hx214_1,hl214_1,hi214_1⟩:=at_T92 HR0.out x3_1 p214 q214
  obtain rfl:ad212=ad214:=(by injection e214)
  have HR214_1:=Aside0.mk hi214_1
  have HC214_1:=Aside0.mk hl214_1
  clear hi214_1 hl214_1
  replace p214:=eq_true p214
  replace q214:=eq_true q214
  have ea_:=sI_ (hx212_1.symm.trans hx214_1)
  injection ea_ with ea_ en_ ec_
  subst ea_
  subst ec_
  clear en_
  go_wp2_with (first|(go_at_call 45;(with_reducible refine(r02_May.calls ((rd_T92 l0 x3_1).f0) _ _ ((rd_T92 l0 x3_1).f1) false _ ?side1 ?side2 A5.out).mono ?_);(case side1=>exact z5_3);(case side2=>exact HC214_1.out);rintro e w' ⟨rfl,⟨nd,rfl⟩⟩;(try first|exact ⟨rfl,_,World.drewN_drewN _ _ _⟩|exact ⟨rfl,_,Eq.trans (World.drewN_drewN _ _ _) (congrArg (World.drewN _) (Nat.add_assoc _ _ _))⟩)))
  repeat(go_quiet (first|(go_at_call 45;(with_reducible refine(r02_May.calls ((rd_T92 l0 x3_1).f0) _ _ ((rd_T92 l0 x3_1).f1) false _ ?side1 ?side2 A5.out).mono ?_);(case side1=>exact z5_3);(case side2=>exact HC214_1.out);rintro e w' ⟨rfl,⟨nd,rfl⟩⟩;(try first|exact ⟨rfl,_,World.drewN_drewN _ _ _⟩|exact ⟨rfl,_,Eq.trans (World.drewN_drewN _ _ _) (congrArg (World.drewN _) (Nat.add_assoc _ _ _))⟩)));try go_wp2_with (first|(go_at_call 45;(with_reducible refine(r02_May.calls ((rd_T92 l0 x3_1).f0) _ _ ((rd_T92 l0 x3_1).f1) false _ ?side1 ?side2 A5.out).mono ?_);(case side1=>exact z5_3);(case side2=>exact HC214_1.out);rintro e w' ⟨rfl,⟨nd,rfl⟩⟩;(try first|exact ⟨rfl,_,World.drewN_drewN _ _ _⟩|exact ⟨rfl,_,Eq.trans (World.drewN_drewN _ _ _) (congrArg (World.drewN _) (Nat.add_assoc _ _ _))⟩))))
  go_ret
  exact ⟨z5_2,z5_1⟩
 subst c6
 have H1:(r07_May.l0 k1 l0 (wrap64 (x3_1+1)))=some r:=by rw [if_pos rfl] at H;exact H
 clear H
 have H:=H1
 clear H1
 have H':=Aside0.mk H
 clear H
 have p212:0<=(x3_1:Int):=oD_ z5_0
 have q212:x3_1<(l0.length:Int):=oD_ z5_0
 obtain ⟨ad212,A212_1,c212_1,e212,hx212_0,hx212_1,hl212_1,hi212_1⟩:=at_T92 HR0.out x3_1 p212 q212
 cases e212
 have HR212_1:=Aside0.mk hi212_1
 have HC212_1:=Aside0.mk hl212_1
 clear hi212_1 hl212_1
 replace p212:=eq_true p212
 replace q212:=eq_true q212
 have p213:0<=(x3_1:Int):=oD_ z5_0
 have q213:x3_1<(l0.length:Int):=oD_ z5_0
 obtain ⟨ad213,A213_1,c213_1,e213,hx213_0,hx213_1,hl213_1,hi213_1⟩:=at_T92 HR0.out x3_1 p213 q213
 obtain rfl:ad212=ad213:=(by injection e213)
 have HR213_1:=Aside0.mk hi213_1
 have HC213_1:=Aside0.mk hl213_1
 clear hi213_1 hl213_1
 replace p213:=eq_true p213
 replace q213:=eq_true q213
 have ea_:=sI_ (hx212_1.symm.trans hx213_1)
 injection ea_ with ea_ en_ ec_
 subst ea_
 subst ec_
 clear en_
 have p214:0<=(x3_1:Int):=oD_ z5_0
 have q214:x3_1<(l0.length:Int):=oD_ z5_0
 obtain ⟨ad214,A214_1,c214_1,e214,hx214_0,hx214_1,hl214_1,hi214_1⟩:=at_T92 HR0.out x3_1 p214 q214
 obtain rfl:ad212=ad214:=(by injection e214)
 have HR214_1:=Aside0.mk hi214_1
 have HC214_1:=Aside0.mk hl214_1
 clear hi214_1 hl214_1
 replace p214:=eq_true p214
 replace q214:=eq_true q214
 have ea_:=sI_ (hx212_1.symm.trans hx214_1)
 injection ea_ with ea_ en_ ec_
 subst ea_
 subst ec_
 clear en_
 go_wp2_with (first|(go_at_call 45;(with_reducible refine(r02_May.calls ((rd_T92 l0 x3_1).f0) _ _ ((rd_T92 l0 x3_1).f1) true _ ?side1 ?side2 A5.out).mono ?_);(case side1=>exact z5_3);(case side2=>exact HC214_1.out);rintro e w' ⟨rfl,⟨nd,rfl⟩⟩;(try first|exact ⟨rfl,_,World.drewN_drewN _ _ _⟩|exact ⟨rfl,_,Eq.trans (World.drewN_drewN _ _ _) (congrArg (World.drewN _) (Nat.add_assoc _ _ _))⟩)))
 repeat(go_quiet (first|(go_at_call 45;(with_reducible refine(r02_May.calls ((rd_T92 l0 x3_1).f0) _ _ ((rd_T92 l0 x3_1).f1) true _ ?side1 ?side2 A5.out).mono ?_);(case side1=>exact z5_3);(case side2=>exact HC214_1.out);rintro e w' ⟨rfl,⟨nd,rfl⟩⟩;(try first|exact ⟨rfl,_,World.drewN_drewN _ _ _⟩|exact ⟨rfl,_,Eq.trans (World.drewN_drewN _ _ _) (congrArg (World.drewN _) (Nat.add_assoc _ _ _))⟩)));try go_wp2_with (first|(go_at_call 45;(with_reducible refine(r02_May.calls ((rd_T92 l0 x3_1).f0) _ _ ((rd_T92 l0 x3_1).f1) true _ ?side1 ?side2 A5.out).mono ?_);(case side1=>exact z5_3);(case side2=>exact HC214_1.out);rintro e w' ⟨rfl,⟨nd,rfl⟩⟩;(try first|exact ⟨rfl,_,World.drewN_drewN _ _ _⟩|exact ⟨rfl,_,Eq.trans (World.drewN_drewN _ _ _) (congrArg (World.drewN _) (Nat.add_assoc _ _ _))⟩))))
 go_roundg k1
 case measure=>have:=HK1.out;omega
 case rel=>exact ⟨(wrap64 (x3_1+1)),z5_2,H',⟨(by have:=HK1.out;omega)⟩,z5_1⟩
def r02_Bytes.l0:Nat->List Int->List Int->Int->Option (Bool)
 | 0,_,_,_=>none
 | k+1,x0,x1,x5=>if x5<(x0.length:Int) then(if 0<=x5 then(if x5<(x1.length:Int) then(if (rd x0 x5)=(rd x1 x5) then(r02_Bytes.l0 k x0 x1 (wrap64 (x5+1))) else(some false)) else(none)) else(none)) else(some true)
def r02_Bytes.f (k:Nat) (l0:List Int) (l1:List Int):Option (Bool):=if (l0.length:Int)=(l1.length:Int) then(r02_Bytes.l0 k l0 l1 0) else(some false)
theorem r02_Bytes.calls (k:Nat) (A0:Option Addr) (c0:Nat) (l0:List Int) (A1:Option Addr) (c1:Nat) (l1:List Int) (r:Bool) (w:World) (hr0:Kd.C (Kd.int .u8) w A0 l0.length l0) (hc0:l0.length<=c0) (hr1:Kd.C (Kd.int .u8) w A1 l1.length l1) (hc1:l1.length<=c1) (h:r02_Bytes.f k l0 l1=some r) :
  Calls Try.prog 51 #[.slice A0 l0.length c0,.slice A1 l1.length c1] w λe w'=>e = .returned (.bool r)/\Drawn0 w w':=by
 have HR0:=Aside0.mk hr0
 have HC0:=Aside0.mk hc0
 clear hr0 hc0
 have HR1:=Aside0.mk hr1
 have HC1:=Aside0.mk hc1
 clear hr1 hc1
 have H:(if (l0.length:Int)=(l1.length:Int) then(r02_Bytes.l0 k l0 l1 0) else(some false))=some r:=h
 clear h
 by_cases c3:(l0.length:Int)=(l1.length:Int)
 rotate_left
 ·rw [if_neg c3] at H
  have c3b0:((l0.length:Int) == (l1.length:Int))=false:=beq_eq_false_iff_ne.mpr c3
  have c3b1:((l0.length:Int) != (l1.length:Int))=true:=bne_iff_ne.mpr c3
  have c3b2:(l0.length == l1.length)=false:=by first|simpa using c3|(simp at c3 ⊢;omega)
  obtain rfl:=sI_ H
  go_enter Try.func51,Try.ntmps51
  go_wp2
  repeat(go_quiet (fail);try go_wp2)
  go_ret
  exact ⟨z5_2,z5_1⟩
 rw [if_pos c3] at H
 have c3b0:((l0.length:Int) == (l1.length:Int))=true:=beq_iff_eq.mpr c3
 have c3b1:((l0.length:Int) != (l1.length:Int))=false:=bne_eq_false_iff_eq.mpr c3
 have c3b2:(l0.length == l1.length)=true:=by first|simpa using c3|(simp at c3 ⊢;omega)
 clear c3
 have H':=Aside0.mk H
 clear H
 go_enter Try.func51,Try.ntmps51
 go_wp2
 repeat(go_quiet (fail);try go_wp2)
 go_loopg [5] k (λkq v5 w'=>∃ (x5_1:Int),v5 = .int .i64 x5_1/\Aside0 (r02_Bytes.l0 kq l0 l1 x5_1=some r)/\Aside0 (kq<=k)/\Drawn0 w w')
 case atStart=>exact ⟨(0),z5_2,H',⟨Nat.le_refl _⟩,z5_1⟩
 case round =>
 clear H'
 try clear c1
 try clear p2
 try clear c3
 try clear c3b0
 try clear c3b1
 try clear c3b2
 obtain ⟨x5_1,rfl,HA,HK1,⟨m1,rfl⟩⟩:=hrel
 cases gk with
 | zero=>exact absurd HA.out (by simp [r02_Bytes.l0])
 | succ k1 =>
 have H:=HA.out
 clear HA
 simp only [r02_Bytes.l0] at H
 by_cases c4:x5_1<(l0.length:Int)
 rotate_left
 ·rw [if_neg c4] at H
  have c4b0:decide (x5_1<(l0.length:Int))=false:=dF_ c4
  clear c4
  obtain rfl:=sI_ H
  go_wp2
  repeat(go_quiet (fail);try go_wp2)
  go_ret
  exact ⟨z5_2,z5_1⟩
 rw [if_pos c4] at H
 have c4b0:decide (x5_1<(l0.length:Int))=true:=dT_ c4
 clear c4
 by_cases c5:0<=x5_1
 rotate_left
 ·rw [if_neg c5] at H
  exact absurd H (by simp)
 rw [if_pos c5] at H
 have c5b0:decide (0<=x5_1)=true:=dT_ c5
 clear c5
 by_cases c6:x5_1<(l1.length:Int)
 rotate_left
 ·rw [if_neg c6] at H
  exact absurd H (by simp)
 rw [if_pos c6] at H
 have c6b0:decide (x5_1<(l1.length:Int))=true:=dT_ c6
 clear c6
 by_cases c7:(rd l0 x5_1)=(rd l1 x5_1)
 rotate_left
 ·rw [if_neg c7] at H
  have c7b0:((rd l0 x5_1) == (rd l1 x5_1))=false:=beq_eq_false_iff_ne.mpr c7
  have c7b1:((rd l0 x5_1) != (rd l1 x5_1))=true:=bne_iff_ne.mpr c7
  obtain rfl:=sI_ H
  have p216:0<=(x5_1:Int):=oD_ z5_0
  have q216:x5_1<(l0.length:Int):=oD_ z5_0
  obtain ⟨ad216,e216,hx216_0⟩:=Kd.at_int HR0.out x5_1 p216 q216
  cases e216
  replace p216:=eq_true p216
  replace q216:=eq_true q216
  have p217:0<=(x5_1:Int):=oD_ z5_0
  have q217:x5_1<(l1.length:Int):=oD_ z5_0
  obtain ⟨ad217,e217,hx217_0⟩:=Kd.at_int HR1.out x5_1 p217 q217
  cases e217
  replace p217:=eq_true p217
  replace q217:=eq_true q217
  go_wp2
  repeat(go_quiet (fail);try go_wp2)
  go_ret
  exact ⟨z5_2,z5_1⟩
 rw [if_pos c7] at H
 have c7b0:((rd l0 x5_1) == (rd l1 x5_1))=true:=beq_iff_eq.mpr c7
 have c7b1:((rd l0 x5_1) != (rd l1 x5_1))=false:=bne_eq_false_iff_eq.mpr c7
 clear c7
 have H':=Aside0.mk H
 clear H
 have p216:0<=(x5_1:Int):=oD_ z5_0
 have q216:x5_1<(l0.length:Int):=oD_ z5_0
 obtain ⟨ad216,e216,hx216_0⟩:=Kd.at_int HR0.out x5_1 p216 q216
 cases e216
 replace p216:=eq_true p216
 replace q216:=eq_true q216
 have p217:0<=(x5_1:Int):=oD_ z5_0
 have q217:x5_1<(l1.length:Int):=oD_ z5_0
 obtain ⟨ad217,e217,hx217_0⟩:=Kd.at_int HR1.out x5_1 p217 q217
 cases e217
 replace p217:=eq_true p217
 replace q217:=eq_true q217
 go_wp2
 repeat(go_quiet (fail);try go_wp2)
 go_roundg k1
 case measure=>have:=HK1.out;omega
 case rel=>exact ⟨(wrap64 (x5_1+1)),z5_2,H',⟨(by have:=HK1.out;omega)⟩,z5_1⟩
end Go.Proofs.Ytfhamdobagjakaa.PJo
