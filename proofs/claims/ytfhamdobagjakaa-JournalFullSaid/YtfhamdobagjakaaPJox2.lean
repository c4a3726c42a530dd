/- a part -/
import Derived.Test.YtfhamdobagjakaaPJox0
namespace Go.Proofs.Ytfhamdobagjakaa.PJo
open Go.RowKit Go.Proofs.YtfhamdobagjakaaW.PrintWords Go.Proofs.YtfhamdobagjakaaW.PrintLast Go.Proofs.YtfhamdobagjakaaW.PrintMore
attribute [local go_sem] max2_int min2_int max_two min_two max_three min_three max_four min_four
set_option linter.unusedVariables false
set_option linter.unusedSimpArgs false
set_option maxHeartbeats 8000000
set_option maxRecDepth 100000
theorem z2_0 {P:Prop} (h:P:=by first|(with_reducible assumption)|assumption):P:=h
theorem z2_1 {P:Prop} (h:P:=by first|rfl|(simp;done)|(simp [*];done)):P:=h
theorem z2_2 {P:Prop} (h:P:=by repeat(first|exact Drawn0.refl _|apply Drawn0.step)):P:=h
theorem z2_3 {P:Prop} (h:P:=by first|omega|exact Nat.le_refl _):P:=h
mutual
def wire_GetNum.j0:Nat->List Int->Bool->Option (Int×Int×Int)
 | 0,_,_=>none
 | k+1,x0,x38=>if x38=true then(some (0,0,2)) else(if 0<(x0.length:Int) then(if 1<=(wrap64 ((wrap64 (rd x0 0))+1)) then(if (wrap64 ((wrap64 (rd x0 0))+1))<=(x0.length:Int) then(wire_GetNum.l0 k (wrap64 ((wrap64 (rd x0 0))+1)) 0 ((x0.take ((wrap64 ((wrap64 (rd x0 0))+1)):Int).toNat).drop 1) (((x0.take ((wrap64 ((wrap64 (rd x0 0))+1)):Int).toNat).drop 1).length:Int) 0) else(none)) else(none)) else(none))
def wire_GetNum.l0:Nat->Int->Int->List Int->Int->Int->Option (Int×Int×Int)
 | 0,_,_,_,_,_=>none
 | k+1,x5,x6,x46,x47,x48=>if x48<x47 then(if 0<=x48 then(if x48<(x46.length:Int) then(wire_GetNum.l0 k x5 (Go.bits .or .u64 (IntKind.u64.wrap (x6*256)) (IntKind.u64.wrap (rd x46 x48))) x46 x47 (wrap64 (x48+1))) else(none)) else(none)) else(some (x6,x5,0))
end
def wire_GetNum.f (k:Nat) (l0:List Int):Option (Int×Int×Int):=if (l0.length:Int)=0 then(wire_GetNum.j0 k l0 true) else(if 0<(l0.length:Int) then(if (rd l0 0) > 8 then(wire_GetNum.j0 k l0 true) else(if (l0.length:Int)<=(wrap64 (rd l0 0)) then(wire_GetNum.j0 k l0 true) else(if (rd l0 0) > 0 then(if 1<(l0.length:Int) then(wire_GetNum.j0 k l0 ((rd l0 1) == 0)) else(none)) else(wire_GetNum.j0 k l0 false)))) else(none))
theorem wire_GetNum.calls (k:Nat) (A0:Option Addr) (c0:Nat) (l0:List Int) (r1:Int) (r2:Int) (r3:Int) (w:World) (hr0:Kd.C (Kd.int .u8) w A0 l0.length l0) (hc0:l0.length<=c0) (h:wire_GetNum.f k l0=some (r1,r2,r3)) :
  Calls Try.prog 83 #[.slice A0 l0.length c0] w λe w'=>e = .returned (.tuple #[.int .u64 r1,.int .i64 r2,.int .i64 r3])/\Drawn0 w w':=by
 have HR0:=Aside0.mk hr0
 have HC0:=Aside0.mk hc0
 clear hr0 hc0
 have H:(if (l0.length:Int)=0 then(wire_GetNum.j0 k l0 true) else(if 0<(l0.length:Int) then(if (rd l0 0) > 8 then(wire_GetNum.j0 k l0 true) else(if (l0.length:Int)<=(wrap64 (rd l0 0)) then(wire_GetNum.j0 k l0 true) else(if (rd l0 0) > 0 then(if 1<(l0.length:Int) then(wire_GetNum.j0 k l0 ((rd l0 1) == 0)) else(none)) else(wire_GetNum.j0 k l0 false)))) else(none)))=some (r1,r2,r3):=h
 clear h
 have HC2:=Aside0.mk H
 clear H
 go_enter Try.func83,Try.ntmps83
 go_upto_region 1 with (fail)
 go_cut [38] (λv38 wc=>∃ (kq:Nat) (x38_1:Bool),v38 = .bool x38_1/\Aside0 (wire_GetNum.j0 kq l0 x38_1=some (r1,r2,r3))/\Aside0 (kq<=k)/\Drawn0 w wc)
 case first =>
  have H:=HC2.out
  clear HC2
  by_cases c3:(l0.length:Int)=0
  ·rw [if_pos c3] at H
   have c3b0:((l0.length:Int) == 0)=true:=beq_iff_eq.mpr c3
   have c3b1:((l0.length:Int) != 0)=false:=bne_eq_false_iff_eq.mpr c3
   clear c3
   (first|rw [c3b0]|(simp only [i64_w,i32_w];rw [c3b0])|skip)
   have H':=Aside0.mk H
   clear H
   go_wp2
   go_meet
   case rel=>exact ⟨_,(true),z2_1,H',⟨z2_3⟩,z2_2⟩
  rw [if_neg c3] at H
  have c3b0:((l0.length:Int) == 0)=false:=beq_eq_false_iff_ne.mpr c3
  have c3b1:((l0.length:Int) != 0)=true:=bne_iff_ne.mpr c3
  have c3b2:¬ (l0=[]):=λh_=>c3 (by rw [h_];rfl)
  (first|rw [c3b0]|(simp only [i64_w,i32_w];rw [c3b0])|skip)
  by_cases c4:0<(l0.length:Int)
  rotate_left
  ·rw [if_neg c4] at H
   exact absurd H (by simp)
  rw [if_pos c4] at H
  have c4b0:decide (0<(l0.length:Int))=true:=dT_ c4
  have c4b1:decide (0<l0.length)=true:=dT_ (by omega)
  clear c4
  by_cases c5:(rd l0 0) > 8
  ·rw [if_pos c5] at H
   have c5b0:decide (8<(rd l0 0))=true:=dT_ c5
   clear c5
   have H':=Aside0.mk H
   clear H
   have p126:0<=(0:Int):=(by omega)
   have q126:0<(l0.length:Int):=oD_ z2_0
   obtain ⟨ad126,e126,hx126_0⟩:=Kd.at_int HR0.out 0 p126 q126
   cases e126
   have qi126:(0<l0.length)=True:=eq_true (by omega)
   (try rw [show((0:Int)).toNat=0 from rfl] at hx126_0)
   (try rw [Addr.add_zero'] at hx126_0)
   replace p126:=eq_true p126
   replace q126:=eq_true q126
   go_wp2
   go_meet
   case rel=>exact ⟨_,(true),z2_1,H',⟨z2_3⟩,z2_2⟩
  rw [if_neg c5] at H
  have c5b0:decide (8<(rd l0 0))=false:=dF_ c5
  clear c5
  by_cases c6:(l0.length:Int)<=(wrap64 (rd l0 0))
  ·rw [if_pos c6] at H
   have c6b0:decide ((l0.length:Int)<=(wrap64 (rd l0 0)))=true:=dT_ c6
   clear c6
   have H':=Aside0.mk H
   clear H
   have p126:0<=(0:Int):=(by omega)
   have q126:0<(l0.length:Int):=oD_ z2_0
   obtain ⟨ad126,e126,hx126_0⟩:=Kd.at_int HR0.out 0 p126 q126
   cases e126
   have qi126:(0<l0.length)=True:=eq_true (by omega)
   (try rw [show((0:Int)).toNat=0 from rfl] at hx126_0)
   (try rw [Addr.add_zero'] at hx126_0)
   replace p126:=eq_true p126
   replace q126:=eq_true q126
   have p127:0<=(0:Int):=(by omega)
   have q127:0<(l0.length:Int):=oD_ z2_0
   obtain ⟨ad127,e127,hx127_0⟩:=Kd.at_int HR0.out 0 p127 q127
   obtain rfl:ad126=ad127:=(by injection e127)
   have qi127:(0<l0.length)=True:=eq_true (by omega)
   (try rw [show((0:Int)).toNat=0 from rfl] at hx127_0)
   (try rw [Addr.add_zero'] at hx127_0)
   replace p127:=eq_true p127
   replace q127:=eq_true q127
   go_wp2
   go_meet
   case rel=>exact ⟨_,(true),z2_1,H',⟨z2_3⟩,z2_2⟩
  rw [if_neg c6] at H
  have c6b0:decide ((l0.length:Int)<=(wrap64 (rd l0 0)))=false:=dF_ c6
  clear c6
  by_cases c7:(rd l0 0) > 0
  rotate_left
  ·rw [if_neg c7] at H
   have c7b0:decide (0<(rd l0 0))=false:=dF_ c7
   clear c7
   have H':=Aside0.mk H
   clear H
   have p126:0<=(0:Int):=(by omega)
   have q126:0<(l0.length:Int):=oD_ z2_0
   obtain ⟨ad126,e126,hx126_0⟩:=Kd.at_int HR0.out 0 p126 q126
   cases e126
   have qi126:(0<l0.length)=True:=eq_true (by omega)
   (try rw [show((0:Int)).toNat=0 from rfl] at hx126_0)
   (try rw [Addr.add_zero'] at hx126_0)
   replace p126:=eq_true p126
   replace q126:=eq_true q126
   have p127:0<=(0:Int):=(by omega)
   have q127:0<(l0.length:Int):=oD_ z2_0
   obtain ⟨ad127,e127,hx127_0⟩:=Kd.at_int HR0.out 0 p127 q127
   obtain rfl:ad126=ad127:=(by injection e127)
   have qi127:(0<l0.length)=True:=eq_true (by omega)
   (try rw [show((0:Int)).toNat=0 from rfl] at hx127_0)
   (try rw [Addr.add_zero'] at hx127_0)
   replace p127:=eq_true p127
   replace q127:=eq_true q127
   have p128:0<=(0:Int):=(by omega)
   have q128:0<(l0.length:Int):=oD_ z2_0
   obtain ⟨ad128,e128,hx128_0⟩:=Kd.at_int HR0.out 0 p128 q128
   obtain rfl:ad126=ad128:=(by injection e128)
   have qi128:(0<l0.length)=True:=eq_true (by omega)
   (try rw [show((0:Int)).toNat=0 from rfl] at hx128_0)
   (try rw [Addr.add_zero'] at hx128_0)
   replace p128:=eq_true p128
   replace q128:=eq_true q128
   go_wp2
   go_meet
   case rel=>exact ⟨_,(false),z2_1,H',⟨z2_3⟩,z2_2⟩
  rw [if_pos c7] at H
  have c7b0:decide (0<(rd l0 0))=true:=dT_ c7
  clear c7
  by_cases c8:1<(l0.length:Int)
  rotate_left
  ·rw [if_neg c8] at H
   exact absurd H (by simp)
  rw [if_pos c8] at H
  have c8b0:decide (1<(l0.length:Int))=true:=dT_ c8
  have c8b1:decide (1<l0.length)=true:=dT_ (by omega)
  clear c8
  have H':=Aside0.mk H
  clear H
  have p126:0<=(0:Int):=(by omega)
  have q126:0<(l0.length:Int):=oD_ z2_0
  obtain ⟨ad126,e126,hx126_0⟩:=Kd.at_int HR0.out 0 p126 q126
  cases e126
  have qi126:(0<l0.length)=True:=eq_true (by omega)
  (try rw [show((0:Int)).toNat=0 from rfl] at hx126_0)
  (try rw [Addr.add_zero'] at hx126_0)
  replace p126:=eq_true p126
  replace q126:=eq_true q126
  have p127:0<=(0:Int):=(by omega)
  have q127:0<(l0.length:Int):=oD_ z2_0
  obtain ⟨ad127,e127,hx127_0⟩:=Kd.at_int HR0.out 0 p127 q127
  obtain rfl:ad126=ad127:=(by injection e127)
  have qi127:(0<l0.length)=True:=eq_true (by omega)
  (try rw [show((0:Int)).toNat=0 from rfl] at hx127_0)
  (try rw [Addr.add_zero'] at hx127_0)
  replace p127:=eq_true p127
  replace q127:=eq_true q127
  have p128:0<=(0:Int):=(by omega)
  have q128:0<(l0.length:Int):=oD_ z2_0
  obtain ⟨ad128,e128,hx128_0⟩:=Kd.at_int HR0.out 0 p128 q128
  obtain rfl:ad126=ad128:=(by injection e128)
  have qi128:(0<l0.length)=True:=eq_true (by omega)
  (try rw [show((0:Int)).toNat=0 from rfl] at hx128_0)
  (try rw [Addr.add_zero'] at hx128_0)
  replace p128:=eq_true p128
  replace q128:=eq_true q128
  have p129:0<=(1:Int):=(by omega)
  have q129:1<(l0.length:Int):=oD_ z2_0
  obtain ⟨ad129,e129,hx129_0⟩:=Kd.at_int HR0.out 1 p129 q129
  obtain rfl:ad126=ad129:=(by injection e129)
  (try simp only [show(1:Int).toNat=1 from rfl,Nat.reduceMul,Nat.reduceEqDiff,Go.Addr.add,↓reduceIte] at hx129_0)
  have qi129:(1<l0.length)=True:=eq_true (by omega)
  (try rw [show((1:Int)).toNat=1 from rfl] at hx129_0)
  replace p129:=eq_true p129
  replace q129:=eq_true q129
  go_wp2
  go_meet
  case rel=>exact ⟨_,(((rd l0 1) == 0)),z2_1,H',⟨z2_3⟩,z2_2⟩
 case rest =>
 clear HC2
 try clear p1
 try clear q1
 try clear hx1
 try clear qi1
 try clear p2
 try clear c3
 try clear c3b0
 try clear c3b1
 try clear c3b2
 try clear c4
 try clear c4b0
 try clear c4b1
 try clear c5
 try clear c5b0
 try clear c6
 try clear c6b0
 try clear p6
 try clear c7
 try clear c7b0
 try clear c8
 try clear c8b0
 try clear c8b1
 try clear hx126_0
 try clear hx127_0
 try clear hx128_0
 try clear hx129_0
 try clear p126
 try clear p127
 try clear p128
 try clear p129
 try clear q126
 try clear q127
 try clear q128
 try clear q129
 obtain ⟨kq,x38_1,rfl,HA,HJ1,⟨mc1,rfl⟩⟩:=hcut
 cases kq with
 | zero=>exact absurd HA.out (by simp [wire_GetNum.j0])
 | succ kj1 =>
 have H:=HA.out
 clear HA
 simp only [wire_GetNum.j0] at H
 by_cases c9:x38_1=true
 ·subst c9
  have H1:(some (0,0,2))=some (r1,r2,r3):=by rw [if_pos rfl] at H;exact H
  clear H
  have H:=H1
  clear H1
  simp only [Option.some.injEq,Prod.mk.injEq] at H
  obtain ⟨rfl,rfl,rfl⟩:=H
  go_wp2
  go_ret3
  exact ⟨z2_1,z2_2⟩
 replace c9:=Bool.eq_false_iff.mpr c9
 subst c9
 have H1:(if 0<(l0.length:Int) then(if 1<=(wrap64 ((wrap64 (rd l0 0))+1)) then(if (wrap64 ((wrap64 (rd l0 0))+1))<=(l0.length:Int) then(wire_GetNum.l0 kj1 (wrap64 ((wrap64 (rd l0 0))+1)) 0 ((l0.take ((wrap64 ((wrap64 (rd l0 0))+1)):Int).toNat).drop 1) (((l0.take ((wrap64 ((wrap64 (rd l0 0))+1)):Int).toNat).drop 1).length:Int) 0) else(none)) else(none)) else(none))=some (r1,r2,r3):=by rw [if_neg (show ¬ (false=true) by decide)] at H;exact H
 clear H
 have H:=H1
 clear H1
 by_cases c10:0<(l0.length:Int)
 rotate_left
 ·rw [if_neg c10] at H
  exact absurd H (by simp)
 rw [if_pos c10] at H
 have c10b0:decide (0<(l0.length:Int))=true:=dT_ c10
 have c10b1:decide (0<l0.length)=true:=dT_ (by omega)
 clear c10
 by_cases c11:1<=(wrap64 ((wrap64 (rd l0 0))+1))
 rotate_left
 ·rw [if_neg c11] at H
  exact absurd H (by simp)
 rw [if_pos c11] at H
 have c11b0:=eq_true c11
 have c11b1:decide (1<=(wrap64 ((wrap64 (rd l0 0))+1)))=true:=dT_ c11
 by_cases c12:(wrap64 ((wrap64 (rd l0 0))+1))<=(l0.length:Int)
 rotate_left
 ·rw [if_neg c12] at H
  exact absurd H (by simp)
 rw [if_pos c12] at H
 have c12b0:=eq_true c12
 have c12b1:decide ((wrap64 ((wrap64 (rd l0 0))+1))<=(l0.length:Int))=true:=dT_ c12
 have H':=Aside0.mk H
 clear H
 have p130:0<=(0:Int):=(by omega)
 have q130:0<(l0.length:Int):=oD_ z2_0
 obtain ⟨ad130,e130,hx130_0⟩:=Kd.at_int HR0.out 0 p130 q130
 cases e130
 have qi130:(0<l0.length)=True:=eq_true (by omega)
 (try rw [show((0:Int)).toNat=0 from rfl] at hx130_0)
 (try rw [Addr.add_zero'] at hx130_0)
 replace p130:=eq_true p130
 replace q130:=eq_true q130
 obtain ⟨i013,hi013,_,hsz13,_⟩:=info_parts info5
 obtain ⟨A13,hcut13,hA13,hC13⟩:=print_mid_of (P:=Try.prog) (Value.int .u8) 0 38 5 .i64 .i64 Try.underlying38 hi013 hsz13 (some ad130) c0 l0 1 (wrap64 ((wrap64 (rd l0 0))+1)) (by omega) (by first|omega|exact oD_ z2_0) (oD_ z2_0) HC0.out
 have HR131:=U (Kd.C_of_reads (h1:=λ_=>rfl) (hA13 _ (Kd.reads_of_C HR0.out)))
 have HC131:=Aside0.mk hC13
 clear hA13 hC13 hi013 hsz13
 (try simp only [show Int.toNat 1=1 from rfl] at hcut13)
 (try simp only [show Int.toNat 1=1 from rfl] at HC0)
 (try simp only [show Int.toNat 1=1 from rfl] at HC131)
 (try simp only [show Int.toNat 1=1 from rfl] at HR0)
 (try simp only [show Int.toNat 1=1 from rfl] at HR131)
 obtain ⟨Y13,hY13⟩:∃ y_:List Int,y_=((l0.take ((wrap64 ((wrap64 (rd l0 0))+1)):Int).toNat).drop 1):=⟨_,rfl⟩
 (try rw [<-hY13] at hcut13)
 (try rw [<-hY13] at HC0)
 (try rw [<-hY13] at HC131)
 (try rw [<-hY13] at HR0)
 (try rw [<-hY13] at HR131)
 (try rw [<-hY13] at H')
 have NY13:=Aside0.mk hY13
 clear hY13
 go_wp2
 go_loopg [6,48] kj1 (λkq v6 v48 w'=>∃ (x6_2:Int) (x48_2:Int),v6 = .int .u64 x6_2/\v48 = .int .i64 x48_2/\Aside0 (wire_GetNum.l0 kq (wrap64 ((wrap64 (rd l0 0))+1)) x6_2 Y13 (Y13.length:Int) x48_2=some (r1,r2,r3))/\Aside0 (kq<=kj1)/\Drawn0 w w')
 case atStart=>exact ⟨(0),(0),z2_1,z2_1,H',⟨Nat.le_refl _⟩,z2_2⟩
 case round =>
 clear H'
 try clear c1
 try clear p1
 try clear q1
 try clear hx1
 try clear qi1
 try clear p2
 try clear c3
 try clear c3b0
 try clear c3b1
 try clear c3b2
 try clear c4
 try clear c4b0
 try clear c4b1
 try clear c5
 try clear c5b0
 try clear c6
 try clear c6b0
 try clear p6
 try clear c7
 try clear c7b0
 try clear c8
 try clear c8b0
 try clear c8b1
 try clear c9
 try clear c10
 try clear c10b0
 try clear c10b1
 try clear c11
 try clear c11b0
 try clear c11b1
 try clear c12
 try clear c12b0
 try clear c12b1
 try clear p12
 try clear q12
 try clear hx12
 try clear qi12
 try clear p13
 try clear q13
 try clear hx13
 try clear qi13
 try clear hx126_0
 try clear hx127_0
 try clear hx128_0
 try clear hx129_0
 try clear hx130_0
 try clear p1
 try clear p126
 try clear p127
 try clear p128
 try clear p129
 try clear p130
 try clear p2
 try clear p6
 try clear q1
 try clear q126
 try clear q127
 try clear q128
 try clear q129
 try clear q130
 obtain ⟨x6_2,x48_2,rfl,rfl,HA,HK2,⟨m2,rfl⟩⟩:=hrel
 cases gk with
 | zero=>exact absurd HA.out (by simp [wire_GetNum.l0])
 | succ k2 =>
 have H:=HA.out
 clear HA
 simp only [wire_GetNum.l0] at H
 by_cases c14:x48_2<(Y13.length:Int)
 rotate_left
 ·rw [if_neg c14] at H
  have c14b0:decide (x48_2<(Y13.length:Int))=false:=dF_ c14
  clear c14
  simp only [Option.some.injEq,Prod.mk.injEq] at H
  obtain ⟨rfl,rfl,rfl⟩:=H
  go_wp2
  go_ret3
  exact ⟨z2_1,z2_2⟩
 rw [if_pos c14] at H
 have c14b0:decide (x48_2<(Y13.length:Int))=true:=dT_ c14
 clear c14
 by_cases c15:0<=x48_2
 rotate_left
 ·rw [if_neg c15] at H
  exact absurd H (by simp)
 rw [if_pos c15] at H
 have c15b0:decide (0<=x48_2)=true:=dT_ c15
 clear c15
 by_cases c16:x48_2<(Y13.length:Int)
 rotate_left
 ·rw [if_neg c16] at H
  exact absurd H (by simp)
 rw [if_pos c16] at H
 have c16b0:decide (x48_2<(Y13.length:Int))=true:=dT_ c16
 clear c16
 have H':=Aside0.mk H
 clear H
 have p132:0<=(x48_2:Int):=oD_ z2_0
 have q132:x48_2<(Y13.length:Int):=oD_ z2_0
 obtain ⟨ad132,e132,hx132_0⟩:=Kd.at_int HR131.out x48_2 p132 q132
 cases e132
 replace p132:=eq_true p132
 replace q132:=eq_true q132
 go_wp2
 go_roundg k2
 case measure=>have:=HJ1.out;have:=HK2.out;omega
 case rel=>exact ⟨(Go.bits .or .u64 (IntKind.u64.wrap (x6_2*256)) (IntKind.u64.wrap (rd Y13 x48_2))),(wrap64 (x48_2+1)),z2_1,z2_1,H',⟨(by have:=HJ1.out;have:=HK2.out;omega)⟩,z2_2⟩
mutual
def wire_short.j0:Nat->List Int->Int->Bool->Option (Bool)
 | 0,_,_,_=>none
 | k+1,x0,x1,x34=>if x34=true then(some false) else(wire_short.l0 k x0 x1 0 1)
def wire_short.l0:Nat->List Int->Int->Int->Int->Option (Bool)
 | 0,_,_,_,_=>none
 | k+1,x0,x1,x5,x6=>if 0<(x0.length:Int) then(if x6<=(wrap64 (rd x0 0)) then(if x6<(x0.length:Int) then(if 0<=x6 then(wire_short.l0 k x0 x1 (Go.bits .or .u64 (IntKind.u64.wrap (x5*256)) (IntKind.u64.wrap (rd x0 x6))) (wrap64 (x6+1))) else(none)) else(if x6=1 then(wire_short.l0 k x0 x1 (Go.bits .or .u64 (IntKind.u64.wrap (x5*256)) 1) (wrap64 (x6+1))) else(wire_short.l0 k x0 x1 (Go.bits .or .u64 (IntKind.u64.wrap (x5*256)) 0) (wrap64 (x6+1))))) else(some (decide (x5<=x1)))) else(none)
end
def wire_short.f (k:Nat) (l0:List Int) (a1:Int):Option (Bool):=if (l0.length:Int)=0 then(some true) else(if 0<(l0.length:Int) then(if (rd l0 0) > 8 then(wire_short.j0 k l0 a1 true) else(if (l0.length:Int) > (wrap64 (rd l0 0)) then(wire_short.j0 k l0 a1 true) else(if (l0.length:Int) > 1 then(if 1<(l0.length:Int) then(wire_short.j0 k l0 a1 ((rd l0 1) == 0)) else(none)) else(wire_short.j0 k l0 a1 false)))) else(none))
theorem wire_short.calls (k:Nat) (A0:Option Addr) (c0:Nat) (l0:List Int) (a1:Int) (r:Bool) (w:World) (hr0:Kd.C (Kd.int .u8) w A0 l0.length l0) (hc0:l0.length<=c0) (h:wire_short.f k l0 a1=some r) :
  Calls Try.prog 112 #[.slice A0 l0.length c0,.int .u64 a1] w λe w'=>e = .returned (.bool r)/\Drawn0 w w':=by
 have HR0:=Aside0.mk hr0
 have HC0:=Aside0.mk hc0
 clear hr0 hc0
 have H:(if (l0.length:Int)=0 then(some true) else(if 0<(l0.length:Int) then(if (rd l0 0) > 8 then(wire_short.j0 k l0 a1 true) else(if (l0.length:Int) > (wrap64 (rd l0 0)) then(wire_short.j0 k l0 a1 true) else(if (l0.length:Int) > 1 then(if 1<(l0.length:Int) then(wire_short.j0 k l0 a1 ((rd l0 1) == 0)) else(none)) else(wire_short.j0 k l0 a1 false)))) else(none)))=some r:=h
 clear h
 by_cases c3:(l0.length:Int)=0
 ·rw [if_pos c3] at H
  have c3b0:((l0.length:Int) == 0)=true:=beq_iff_eq.mpr c3
  have c3b1:((l0.length:Int) != 0)=false:=bne_eq_false_iff_eq.mpr c3
  clear c3
  obtain rfl:=sI_ H
  go_enter Try.func112,Try.ntmps112
  go_wp2
  go_ret
  exact ⟨z2_1,z2_2⟩
 rw [if_neg c3] at H
 have c3b0:((l0.length:Int) == 0)=false:=beq_eq_false_iff_ne.mpr c3
 have c3b1:((l0.length:Int) != 0)=true:=bne_iff_ne.mpr c3
 have c3b2:¬ (l0=[]):=λh_=>c3 (by rw [h_];rfl)
 have HC4:=Aside0.mk H
 clear H
 go_enter Try.func112,Try.ntmps112
 go_upto_region 3 with (fail)
 go_cut [34] (λv34 wc=>∃ (kq:Nat) (x34_3:Bool),v34 = .bool x34_3/\Aside0 (wire_short.j0 kq l0 a1 x34_3=some r)/\Aside0 (kq<=k)/\Drawn0 w wc)
 case first =>
  have H:=HC4.out
  clear HC4
  by_cases c5:0<(l0.length:Int)
  rotate_left
  ·rw [if_neg c5] at H
   exact absurd H (by simp)
  rw [if_pos c5] at H
  have c5b0:decide (0<(l0.length:Int))=true:=dT_ c5
  have c5b1:decide (0<l0.length)=true:=dT_ (by omega)
  clear c5
  (first|rw [c5b0]|(simp only [i64_w,i32_w];rw [c5b0])|skip)
  by_cases c6:(rd l0 0) > 8
  ·rw [if_pos c6] at H
   have c6b0:decide (8<(rd l0 0))=true:=dT_ c6
   clear c6
   have H':=Aside0.mk H
   clear H
   have p133:0<=(0:Int):=(by omega)
   have q133:0<(l0.length:Int):=oD_ z2_0
   obtain ⟨ad133,e133,hx133_0⟩:=Kd.at_int HR0.out 0 p133 q133
   cases e133
   have qi133:(0<l0.length)=True:=eq_true (by omega)
   (try rw [show((0:Int)).toNat=0 from rfl] at hx133_0)
   (try rw [Addr.add_zero'] at hx133_0)
   replace p133:=eq_true p133
   replace q133:=eq_true q133
   go_wp2
   go_meet
   case rel=>exact ⟨_,(true),z2_1,H',⟨z2_3⟩,z2_2⟩
  rw [if_neg c6] at H
  have c6b0:decide (8<(rd l0 0))=false:=dF_ c6
  clear c6
  by_cases c7:(l0.length:Int) > (wrap64 (rd l0 0))
  ·rw [if_pos c7] at H
   have c7b0:decide ((wrap64 (rd l0 0))<(l0.length:Int))=true:=dT_ c7
   clear c7
   have H':=Aside0.mk H
   clear H
   have p133:0<=(0:Int):=(by omega)
   have q133:0<(l0.length:Int):=oD_ z2_0
   obtain ⟨ad133,e133,hx133_0⟩:=Kd.at_int HR0.out 0 p133 q133
   cases e133
   have qi133:(0<l0.length)=True:=eq_true (by omega)
   (try rw [show((0:Int)).toNat=0 from rfl] at hx133_0)
   (try rw [Addr.add_zero'] at hx133_0)
   replace p133:=eq_true p133
   replace q133:=eq_true q133
   have p134:0<=(0:Int):=(by omega)
   have q134:0<(l0.length:Int):=oD_ z2_0
   obtain ⟨ad134,e134,hx134_0⟩:=Kd.at_int HR0.out 0 p134 q134
   obtain rfl:ad133=ad134:=(by injection e134)
   have qi134:(0<l0.length)=True:=eq_true (by omega)
   (try rw [show((0:Int)).toNat=0 from rfl] at hx134_0)
   (try rw [Addr.add_zero'] at hx134_0)
   replace p134:=eq_true p134
   replace q134:=eq_true q134
   go_wp2
   go_meet
   case rel=>exact ⟨_,(true),z2_1,H',⟨z2_3⟩,z2_2⟩
  rw [if_neg c7] at H
  have c7b0:decide ((wrap64 (rd l0 0))<(l0.length:Int))=false:=dF_ c7
  clear c7
  by_cases c8:(l0.length:Int) > 1
  rotate_left
  ·rw [if_neg c8] at H
   have c8b0:decide (1<(l0.length:Int))=false:=dF_ c8
   have c8b1:decide (1<l0.length)=false:=dF_ (by omega)
   clear c8
   have H':=Aside0.mk H
   clear H
   have p133:0<=(0:Int):=(by omega)
   have q133:0<(l0.length:Int):=oD_ z2_0
   obtain ⟨ad133,e133,hx133_0⟩:=Kd.at_int HR0.out 0 p133 q133
   cases e133
   have qi133:(0<l0.length)=True:=eq_true (by omega)
   (try rw [show((0:Int)).toNat=0 from rfl] at hx133_0)
   (try rw [Addr.add_zero'] at hx133_0)
   replace p133:=eq_true p133
   replace q133:=eq_true q133
   have p134:0<=(0:Int):=(by omega)
   have q134:0<(l0.length:Int):=oD_ z2_0
   obtain ⟨ad134,e134,hx134_0⟩:=Kd.at_int HR0.out 0 p134 q134
   obtain rfl:ad133=ad134:=(by injection e134)
   have qi134:(0<l0.length)=True:=eq_true (by omega)
   (try rw [show((0:Int)).toNat=0 from rfl] at hx134_0)
   (try rw [Addr.add_zero'] at hx134_0)
   replace p134:=eq_true p134
   replace q134:=eq_true q134
   go_wp2
   go_meet
   case rel=>exact ⟨_,(false),z2_1,H',⟨z2_3⟩,z2_2⟩
  rw [if_pos c8] at H
  have c8b0:decide (1<(l0.length:Int))=true:=dT_ c8
  have c8b1:decide (1<l0.length)=true:=dT_ (by omega)
  clear c8
  by_cases c9:1<(l0.length:Int)
  rotate_left
  ·rw [if_neg c9] at H
   exact absurd H (by simp)
  rw [if_pos c9] at H
  have c9b0:decide (1<(l0.length:Int))=true:=dT_ c9
  have c9b1:decide (1<l0.length)=true:=dT_ (by omega)
  clear c9
  have H':=Aside0.mk H
  clear H
  have p133:0<=(0:Int):=(by omega)
  have q133:0<(l0.length:Int):=oD_ z2_0
  obtain ⟨ad133,e133,hx133_0⟩:=Kd.at_int HR0.out 0 p133 q133
  cases e133
  have qi133:(0<l0.length)=True:=eq_true (by omega)
  (try rw [show((0:Int)).toNat=0 from rfl] at hx133_0)
  (try rw [Addr.add_zero'] at hx133_0)
  replace p133:=eq_true p133
  replace q133:=eq_true q133
  have p134:0<=(0:Int):=(by omega)
  have q134:0<(l0.length:Int):=oD_ z2_0
  obtain ⟨ad134,e134,hx134_0⟩:=Kd.at_int HR0.out 0 p134 q134
  obtain rfl:ad133=ad134:=(by injection e134)
  have qi134:(0<l0.length)=True:=eq_true (by omega)
  (try rw [show((0:Int)).toNat=0 from rfl] at hx134_0)
  (try rw [Addr.add_zero'] at hx134_0)
  replace p134:=eq_true p134
  replace q134:=eq_true q134
  have p135:0<=(1:Int):=(by omega)
  have q135:1<(l0.length:Int):=oD_ z2_0
  obtain ⟨ad135,e135,hx135_0⟩:=Kd.at_int HR0.out 1 p135 q135
  obtain rfl:ad133=ad135:=(by injection e135)
  (try simp only [show(1:Int).toNat=1 from rfl,Nat.reduceMul,Nat.reduceEqDiff,Go.Addr.add,↓reduceIte] at hx135_0)
  have qi135:(1<l0.length)=True:=eq_true (by omega)
  (try rw [show((1:Int)).toNat=1 from rfl] at hx135_0)
  replace p135:=eq_true p135
  replace q135:=eq_true q135
  go_wp2
  go_meet
  case rel=>exact ⟨_,(((rd l0 1) == 0)),z2_1,H',⟨z2_3⟩,z2_2⟩
 case rest =>
 clear HC4
 try clear c1
 try clear p1
 try clear q1
 try clear hx1
 try clear qi1
 try clear p2
 try clear c3
 try clear c3b0
 try clear c3b1
 try clear c3b2
 try clear c5
 try clear c5b0
 try clear c5b1
 try clear c6
 try clear c6b0
 try clear p6
 try clear c7
 try clear c7b0
 try clear c8
 try clear c8b0
 try clear c8b1
 try clear c9
 try clear c9b0
 try clear c9b1
 try clear hx133_0
 try clear hx134_0
 try clear hx135_0
 try clear p133
 try clear p134
 try clear p135
 try clear q133
 try clear q134
 try clear q135
 obtain ⟨kq,x34_3,rfl,HA,HJ3,⟨mc3,rfl⟩⟩:=hcut
 cases kq with
 | zero=>exact absurd HA.out (by simp [wire_short.j0])
 | succ kj3 =>
 have H:=HA.out
 clear HA
 simp only [wire_short.j0] at H
 by_cases c10:x34_3=true
 ·subst c10
  have H1:(some false)=some r:=by rw [if_pos rfl] at H;exact H
  clear H
  have H:=H1
  clear H1
  obtain rfl:=sI_ H
  go_wp2
  go_ret
  exact ⟨z2_1,z2_2⟩
 replace c10:=Bool.eq_false_iff.mpr c10
 subst c10
 have H1:(wire_short.l0 kj3 l0 a1 0 1)=some r:=by rw [if_neg (show ¬ (false=true) by decide)] at H;exact H
 clear H
 have H:=H1
 clear H1
 have H':=Aside0.mk H
 clear H
 go_wp2
 go_loopg [5,6] kj3 (λkq v5 v6 w'=>∃ (x5_2:Int) (x6_2:Int),v5 = .int .u64 x5_2/\v6 = .int .i64 x6_2/\Aside0 (wire_short.l0 kq l0 a1 x5_2 x6_2=some r)/\Aside0 (kq<=kj3)/\Drawn0 w w')
 case atStart=>exact ⟨(0),(1),z2_1,z2_1,H',⟨Nat.le_refl _⟩,z2_2⟩
 case round =>
 clear H'
 try clear c1
 try clear p1
 try clear q1
 try clear hx1
 try clear qi1
 try clear p2
 try clear c3
 try clear c3b0
 try clear c3b1
 try clear c3b2
 try clear c5
 try clear c5b0
 try clear c5b1
 try clear c6
 try clear c6b0
 try clear p6
 try clear c7
 try clear c7b0
 try clear c8
 try clear c8b0
 try clear c8b1
 try clear c9
 try clear c9b0
 try clear c9b1
 try clear c10
 try clear hx133_0
 try clear hx134_0
 try clear hx135_0
 try clear p1
 try clear p133
 try clear p134
 try clear p135
 try clear p2
 try clear p6
 try clear q1
 try clear q133
 try clear q134
 try clear q135
 obtain ⟨x5_2,x6_2,rfl,rfl,HA,HK2,⟨m2,rfl⟩⟩:=hrel
 cases gk with
 | zero=>exact absurd HA.out (by simp [wire_short.l0])
 | succ k2 =>
 have H:=HA.out
 clear HA
 simp only [wire_short.l0] at H
 by_cases c11:0<(l0.length:Int)
 rotate_left
 ·rw [if_neg c11] at H
  exact absurd H (by simp)
 rw [if_pos c11] at H
 have c11b0:decide (0<(l0.length:Int))=true:=dT_ c11
 have c11b1:decide (0<l0.length)=true:=dT_ (by omega)
 clear c11
 by_cases c12:x6_2<=(wrap64 (rd l0 0))
 rotate_left
 ·rw [if_neg c12] at H
  have c12b0:decide (x6_2<=(wrap64 (rd l0 0)))=false:=dF_ c12
  clear c12
  obtain rfl:=sI_ H
  have p136:0<=(0:Int):=(by omega)
  have q136:0<(l0.length:Int):=oD_ z2_0
  obtain ⟨ad136,e136,hx136_0⟩:=Kd.at_int HR0.out 0 p136 q136
  cases e136
  have qi136:(0<l0.length)=True:=eq_true (by omega)
  (try rw [show((0:Int)).toNat=0 from rfl] at hx136_0)
  (try rw [Addr.add_zero'] at hx136_0)
  replace p136:=eq_true p136
  replace q136:=eq_true q136
  go_wp2
  go_ret
  exact ⟨z2_1,z2_2⟩
 rw [if_pos c12] at H
 have c12b0:decide (x6_2<=(wrap64 (rd l0 0)))=true:=dT_ c12
 clear c12
 by_cases c13:x6_2<(l0.length:Int)
 ·rw [if_pos c13] at H
  have c13b0:decide (x6_2<(l0.length:Int))=true:=dT_ c13
  clear c13
  by_cases c14:0<=x6_2
  rotate_left
  ·rw [if_neg c14] at H
   exact absurd H (by simp)
  rw [if_pos c14] at H
  have c14b0:decide (0<=x6_2)=true:=dT_ c14
  clear c14
  have H':=Aside0.mk H
  clear H
  have p136:0<=(0:Int):=(by omega)
  have q136:0<(l0.length:Int):=oD_ z2_0
  obtain ⟨ad136,e136,hx136_0⟩:=Kd.at_int HR0.out 0 p136 q136
  cases e136
  have qi136:(0<l0.length)=True:=eq_true (by omega)
  (try rw [show((0:Int)).toNat=0 from rfl] at hx136_0)
  (try rw [Addr.add_zero'] at hx136_0)
  replace p136:=eq_true p136
  replace q136:=eq_true q136
  have p137:0<=(x6_2:Int):=oD_ z2_0
  have q137:x6_2<(l0.length:Int):=oD_ z2_0
  obtain ⟨ad137,e137,hx137_0⟩:=Kd.at_int HR0.out x6_2 p137 q137
  obtain rfl:ad136=ad137:=(by injection e137)
  replace p137:=eq_true p137
  replace q137:=eq_true q137
  go_wp2
  go_roundg k2
  case measure=>have:=HJ3.out;have:=HK2.out;omega
  case rel=>exact ⟨(Go.bits .or .u64 (IntKind.u64.wrap (x5_2*256)) (IntKind.u64.wrap (rd l0 x6_2))),(wrap64 (x6_2+1)),z2_1,z2_1,H',⟨(by have:=HJ3.out;have:=HK2.out;omega)⟩,z2_2⟩
 rw [if_neg c13] at H
 have c13b0:decide (x6_2<(l0.length:Int))=false:=dF_ c13
 clear c13
 by_cases c15:x6_2=1
 rotate_left
 ·rw [if_neg c15] at H
  have c15b0:(x6_2 == 1)=false:=beq_eq_false_iff_ne.mpr c15
  have c15b1:(x6_2 != 1)=true:=bne_iff_ne.mpr c15
  have H':=Aside0.mk H
  clear H
  have p136:0<=(0:Int):=(by omega)
  have q136:0<(l0.length:Int):=oD_ z2_0
  obtain ⟨ad136,e136,hx136_0⟩:=Kd.at_int HR0.out 0 p136 q136
  cases e136
  have qi136:(0<l0.length)=True:=eq_true (by omega)
  (try rw [show((0:Int)).toNat=0 from rfl] at hx136_0)
  (try rw [Addr.add_zero'] at hx136_0)
  replace p136:=eq_true p136
  replace q136:=eq_true q136
  go_wp2
  go_roundg k2
  case measure=>have:=HJ3.out;have:=HK2.out;omega
  case rel=>exact ⟨(Go.bits .or .u64 (IntKind.u64.wrap (x5_2*256)) 0),(wrap64 (x6_2+1)),z2_1,z2_1,H',⟨(by have:=HJ3.out;have:=HK2.out;omega)⟩,z2_2⟩
 rw [if_pos c15] at H
 have c15b0:(x6_2 == 1)=true:=beq_iff_eq.mpr c15
 have c15b1:(x6_2 != 1)=false:=bne_eq_false_iff_eq.mpr c15
 clear c15
 have H':=Aside0.mk H
 clear H
 have p136:0<=(0:Int):=(by omega)
 have q136:0<(l0.length:Int):=oD_ z2_0
 obtain ⟨ad136,e136,hx136_0⟩:=Kd.at_int HR0.out 0 p136 q136
 cases e136
 have qi136:(0<l0.length)=True:=eq_true (by omega)
 (try rw [show((0:Int)).toNat=0 from rfl] at hx136_0)
 (try rw [Addr.add_zero'] at hx136_0)
 replace p136:=eq_true p136
 replace q136:=eq_true q136
 go_wp2
 go_roundg k2
 case measure=>have:=HJ3.out;have:=HK2.out;omega
 case rel=>exact ⟨(Go.bits .or .u64 (IntKind.u64.wrap (x5_2*256)) 1),(wrap64 (x6_2+1)),z2_1,z2_1,H',⟨(by have:=HJ3.out;have:=HK2.out;omega)⟩,z2_2⟩
end Go.Proofs.Ytfhamdobagjakaa.PJo
