import Derived.Test.YtgocnchjpecafaaPEvx4
import Derived.Test.YtgocnchjpecafaaPEvx0
/- a part -/
namespace Go.Proofs.Ytgocnchjpecafaa.PEv
open Go.RowKit Go.Proofs.YtgocnchjpecafaaW.PrintWords Go.Proofs.YtgocnchjpecafaaW.PrintLast Go.Proofs.YtgocnchjpecafaaW.PrintMore
attribute [local go_sem] max2_int min2_int max_two min_two max_three min_three max_four min_four
set_option linter.unusedVariables false
set_option linter.unusedSimpArgs false
end Go.Proofs.Ytgocnchjpecafaa.PEv
/- a part -/
namespace Go.Proofs.Ytgocnchjpecafaa.PEv
open Go.RowKit Go.Proofs.YtgocnchjpecafaaW.PrintWords Go.Proofs.YtgocnchjpecafaaW.PrintLast Go.Proofs.YtgocnchjpecafaaW.PrintMore
attribute [local go_sem] max2_int min2_int max_two min_two max_three min_three max_four min_four
set_option linter.unusedVariables false
set_option linter.unusedSimpArgs false
set_option maxHeartbeats 8000000
set_option maxRecDepth 100000
theorem z6_0 {P:Prop} (h:P:=by repeat(first|(with_reducible first|exact HB.out|apply below_alloc|apply pw_below_drewN|apply below_drew1)|exact HB.out)):P:=h
theorem z6_1 {P:Prop} (h:P:=by first|(with_reducible assumption)|assumption):P:=h
theorem z6_2 {P:Prop} (h:P:=by repeat(first|exact HR0.out|(with_reducible refine Kd.C_alloc ?_ _)|(with_reducible refine Kd.C_drewN ?_ _)|(with_reducible refine Kd.C_drew ?_))):P:=h
theorem z6_3 {P:Prop} (h:P:=by repeat(first|exact Drawn0.refl _|apply Drawn0.step)):P:=h
theorem z6_4 {P:Prop} (h:P:=by first|rfl|(simp;done)|(simp [*];done)):P:=h
theorem z6_5 {P:Prop} (h:P:=by(try simp only [List.map_toArray,List.map_cons,List.map_nil]);first|done|rfl|(simp only [List.length_drop,List.length_take];rfl)):P:=h
theorem z6_6 {P:Prop} (h:P:=by first|rfl|(simp [errW_none,errW_some]<;>rfl)|(simp [*,errW_none,errW_some]<;>rfl)):P:=h
theorem z6_7 {P:Prop} (h:P:=by first|exact Kd.R_nil _ _ _ _ _|exact Kd.N_nil _ _ _ _ _|exact Kd.V_nil _ _ _ _ _|exact Kd.Q_nil _ _ _ _ _|exact Kd.S_nil _ _ _ _ _):P:=h
theorem z6_8 {P:Prop} (h:P:=by first|omega|exact Nat.le_refl _):P:=h
mutual
def wire_GetNum.j0:Nat->List Int->Bool->Option (Int×Int×Int)
 | 0,_,_=>none
 | k+1,x0,x38=>if x38=true then(some (0,0,2)) else(if 0<(x0.length:Int) then(if 1<=(wrap64 ((wrap64 (rd x0 0))+1)) then(if (wrap64 ((wrap64 (rd x0 0))+1))<=(x0.length:Int) then(wire_GetNum.l0 k (wrap64 ((wrap64 (rd x0 0))+1)) 0 ((x0.take ((wrap64 ((wrap64 (rd x0 0))+1)):Int).toNat).drop 1) (((x0.take ((wrap64 ((wrap64 (rd x0 0))+1)):Int).toNat).drop 1).length:Int) 0) else(none)) else(none)) else(none))
def wire_GetNum.l0:Nat->Int->Int->List Int->Int->Int->Option (Int×Int×Int)
 | 0,_,_,_,_,_=>none
 | k+1,x5,x6,x46,x47,x48=>if x48<x47 then(if 0<=x48 then(if x48<(x46.length:Int) then(wire_GetNum.l0 k x5 (Go.bits .or .u64 (IntKind.u64.wrap (x6*256)) (IntKind.u64.wrap (rd x46 x48))) x46 x47 (wrap64 (x48+1))) else(none)) else(none)) else(some (x6,x5,0))
end
def wire_GetNum.f (k:Nat) (l0:List Int):Option (Int×Int×Int):=if (l0.length:Int)=0 then(wire_GetNum.j0 k l0 true) else(if 0<(l0.length:Int) then(if (rd l0 0) > 8 then(wire_GetNum.j0 k l0 true) else(if (l0.length:Int)<=(wrap64 (rd l0 0)) then(wire_GetNum.j0 k l0 true) else(if (rd l0 0) > 0 then(if 1<(l0.length:Int) then(wire_GetNum.j0 k l0 ((rd l0 1) == 0)) else(none)) else(wire_GetNum.j0 k l0 false)))) else(none))
theorem wire_GetNum.mono_l:∀ k,(∀ y0 y1,LeO (wire_GetNum.j0 k y0 y1) (wire_GetNum.j0 (k+1) y0 y1))/\(∀ y0 y1 y2 y3 y4,LeO (wire_GetNum.l0 k y0 y1 y2 y3 y4) (wire_GetNum.l0 (k+1) y0 y1 y2 y3 y4))
 | 0=>⟨λ_ _ r h=>by simp [wire_GetNum.j0] at h,λ_ _ _ _ _ r h=>by simp [wire_GetNum.l0] at h⟩
 | k+1=>by
  obtain ⟨ih0,ih1⟩:=wire_GetNum.mono_l k
  refine ⟨?_,?_⟩
  ·intro y0 y1
   unfold wire_GetNum.j0
   repeat' first
   | (with_reducible exact ih0 _ _)
   | (with_reducible exact ih1 _ _ _ _ _)
   | (with_reducible exact LeO.refl _)
   | (with_reducible exact LeO.none _)
   | (with_reducible refine LeO.ite ?_ ?_)
   | (with_reducible refine LeO.bind ?_ (λ_=>?_))
  ·intro y0 y1 y2 y3 y4
   unfold wire_GetNum.l0
   repeat' first
   | (with_reducible exact ih0 _ _)
   | (with_reducible exact ih1 _ _ _ _ _)
   | (with_reducible exact LeO.refl _)
   | (with_reducible exact LeO.none _)
   | (with_reducible refine LeO.ite ?_ ?_)
   | (with_reducible refine LeO.bind ?_ (λ_=>?_))
theorem wire_GetNum.mono:∀ a0 k,LeO (wire_GetNum.f k a0) (wire_GetNum.f (k+1) a0):=by
 intro a0 k
 obtain ⟨ih0,ih1⟩:=wire_GetNum.mono_l k
 unfold wire_GetNum.f
 repeat' first
  | (with_reducible exact ih0 _ _)
  | (with_reducible exact ih1 _ _ _ _ _)
  | (with_reducible exact LeO.refl _)
  | (with_reducible exact LeO.none _)
  | (with_reducible refine LeO.ite ?_ ?_)
  | (with_reducible refine LeO.bind ?_ (λ_=>?_))
theorem wire_GetNum.calls (k:Nat) (A0:Option Addr) (c0:Nat) (l0:List Int) (r1:Int) (r2:Int) (r3:Int) (w:World) (hr0:Kd.C (Kd.int .u8) w A0 l0.length l0) (hc0:l0.length<=c0) (h:wire_GetNum.f k l0=some (r1,r2,r3)) :
  Calls Try.prog 86 #[.slice A0 l0.length c0] w λe w'=>e = .returned (.tuple #[.int .u64 r1,.int .i64 r2,.int .i64 r3])/\Drawn0 w w':=by
 have HR0:=Aside0.mk hr0
 have HC0:=Aside0.mk hc0
 clear hr0 hc0
 have H:(if (l0.length:Int)=0 then(wire_GetNum.j0 k l0 true) else(if 0<(l0.length:Int) then(if (rd l0 0) > 8 then(wire_GetNum.j0 k l0 true) else(if (l0.length:Int)<=(wrap64 (rd l0 0)) then(wire_GetNum.j0 k l0 true) else(if (rd l0 0) > 0 then(if 1<(l0.length:Int) then(wire_GetNum.j0 k l0 ((rd l0 1) == 0)) else(none)) else(wire_GetNum.j0 k l0 false)))) else(none)))=some (r1,r2,r3):=h
 clear h
 have HC2:=Aside0.mk H
 clear H
 go_enter Try.func86,Try.ntmps86
 go_upto_region 1 with (fail)
 go_cut [38] (λv38 wc=>∃ (kq:Nat) (x38_1:Bool),v38 = .bool x38_1/\Aside0 (wire_GetNum.j0 kq l0 x38_1=some (r1,r2,r3))/\Aside0 (kq<=k)/\Drawn0 w wc)
 case first =>
  have H:=HC2.out
  clear HC2
  by_cases c3:(l0.length:Int)=0
  ·rw [if_pos c3] at H
   have c3b0:((l0.length:Int) == 0)=true:=beq_iff_eq.mpr c3
   have c3b1:((l0.length:Int) != 0)=false:=bne_eq_false_iff_eq.mpr c3
   clear c3
   (first|rw [c3b0]|(simp only [i64_w,i32_w];rw [c3b0])|skip)
   have H':=Aside0.mk H
   clear H
   go_wp2
   go_meet
   case rel=>exact ⟨_,(true),z6_4,H',⟨z6_8⟩,z6_3⟩
  rw [if_neg c3] at H
  have c3b0:((l0.length:Int) == 0)=false:=beq_eq_false_iff_ne.mpr c3
  have c3b1:((l0.length:Int) != 0)=true:=bne_iff_ne.mpr c3
  have c3b2:¬ (l0=[]):=λh_=>c3 (by rw [h_];rfl)
  (first|rw [c3b0]|(simp only [i64_w,i32_w];rw [c3b0])|skip)
  by_cases c4:0<(l0.length:Int)
  rotate_left
  ·rw [if_neg c4] at H
   exact absurd H (by simp)
  rw [if_pos c4] at H
  have c4b0:decide (0<(l0.length:Int))=true:=dT_ c4
  have c4b1:decide (0<l0.length)=true:=dT_ (by omega)
  clear c4
  by_cases c5:(rd l0 0) > 8
  ·rw [if_pos c5] at H
   have c5b0:decide (8<(rd l0 0))=true:=dT_ c5
   clear c5
   have H':=Aside0.mk H
   clear H
   have p135:0<=(0:Int):=(by omega)
   have q135:0<(l0.length:Int):=oD_ z6_1
   obtain ⟨ad135,e135,hx135_0⟩:=Kd.at_int HR0.out 0 p135 q135
   cases e135
   have qi135:(0<l0.length)=True:=eq_true (by omega)
   (try rw [show((0:Int)).toNat=0 from rfl] at hx135_0)
   (try rw [Addr.add_zero'] at hx135_0)
   replace p135:=eq_true p135
   replace q135:=eq_true q135
   go_wp2
   go_meet
   case rel=>exact ⟨_,(true),z6_4,H',⟨z6_8⟩,z6_3⟩
  rw [if_neg c5] at H
  have c5b0:decide (8<(rd l0 0))=false:=dF_ c5
  clear c5
  by_cases c6:(l0.length:Int)<=(wrap64 (rd l0 0))
  ·rw [if_pos c6] at H
   have c6b0:decide ((l0.length:Int)<=(wrap64 (rd l0 0)))=true:=dT_ c6
   clear c6
   have H':=Aside0.mk H
   clear H
   have p135:0<=(0:Int):=(by omega)
   have q135:0<(l0.length:Int):=oD_ z6_1
   obtain ⟨ad135,e135,hx135_0⟩:=Kd.at_int HR0.out 0 p135 q135
   cases e135
   have qi135:(0<l0.length)=True:=eq_true (by omega)
   (try rw [show((0:Int)).toNat=0 from rfl] at hx135_0)
   (try rw [Addr.add_zero'] at hx135_0)
   replace p135:=eq_true p135
   replace q135:=eq_true q135
   have p136:0<=(0:Int):=(by omega)
   have q136:0<(l0.length:Int):=oD_ z6_1
   obtain ⟨ad136,e136,hx136_0⟩:=Kd.at_int HR0.out 0 p136 q136
   obtain rfl:ad135=ad136:=(by injection e136)
   have qi136:(0<l0.length)=True:=eq_true (by omega)
   (try rw [show((0:Int)).toNat=0 from rfl] at hx136_0)
   (try rw [Addr.add_zero'] at hx136_0)
   replace p136:=eq_true p136
   replace q136:=eq_true q136
   go_wp2
   go_meet
   case rel=>exact ⟨_,(true),z6_4,H',⟨z6_8⟩,z6_3⟩
  rw [if_neg c6] at H
  have c6b0:decide ((l0.length:Int)<=(wrap64 (rd l0 0)))=false:=dF_ c6
  clear c6
  by_cases c7:(rd l0 0) > 0
  rotate_left
  ·rw [if_neg c7] at H
   have c7b0:decide (0<(rd l0 0))=false:=dF_ c7
   clear c7
   have H':=Aside0.mk H
   clear H
   have p135:0<=(0:Int):=(by omega)
   have q135:0<(l0.length:Int):=oD_ z6_1
   obtain ⟨ad135,e135,hx135_0⟩:=Kd.at_int HR0.out 0 p135 q135
   cases e135
   have qi135:(0<l0.length)=True:=eq_true (by omega)
   (try rw [show((0:Int)).toNat=0 from rfl] at hx135_0)
   (try rw [Addr.add_zero'] at hx135_0)
   replace p135:=eq_true p135
   replace q135:=eq_true q135
   have p136:0<=(0:Int):=(by omega)
   have q136:0<(l0.length:Int):=oD_ z6_1
   obtain ⟨ad136,e136,hx136_0⟩:=Kd.at_int HR0.out 0 p136 q136
   obtain rfl:ad135=ad136:=(by injection e136)
   have qi136:(0<l0.length)=True:=eq_true (by omega)
   (try rw [show((0:Int)).toNat=0 from rfl] at hx136_0)
   (try rw [Addr.add_zero'] at hx136_0)
   replace p136:=eq_true p136
   replace q136:=eq_true q136
   have p137:0<=(0:Int):=(by omega)
   have q137:0<(l0.length:Int):=oD_ z6_1
   obtain ⟨ad137,e137,hx137_0⟩:=Kd.at_int HR0.out 0 p137 q137
   obtain rfl:ad135=ad137:=(by injection e137)
   have qi137:(0<l0.length)=True:=eq_true (by omega)
   (try rw [show((0:Int)).toNat=0 from rfl] at hx137_0)
   (try rw [Addr.add_zero'] at hx137_0)
   replace p137:=eq_true p137
   replace q137:=eq_true q137
   go_wp2
   go_meet
   case rel=>exact ⟨_,(false),z6_4,H',⟨z6_8⟩,z6_3⟩
  rw [if_pos c7] at H
  have c7b0:decide (0<(rd l0 0))=true:=dT_ c7
  clear c7
  by_cases c8:1<(l0.length:Int)
  rotate_left
  ·rw [if_neg c8] at H
   exact absurd H (by simp)
  rw [if_pos c8] at H
  have c8b0:decide (1<(l0.length:Int))=true:=dT_ c8
  have c8b1:decide (1<l0.length)=true:=dT_ (by omega)
  clear c8
  have H':=Aside0.mk H
  clear H
  have p135:0<=(0:Int):=(by omega)
  have q135:0<(l0.length:Int):=oD_ z6_1
  obtain ⟨ad135,e135,hx135_0⟩:=Kd.at_int HR0.out 0 p135 q135
  cases e135
  have qi135:(0<l0.length)=True:=eq_true (by omega)
  (try rw [show((0:Int)).toNat=0 from rfl] at hx135_0)
  (try rw [Addr.add_zero'] at hx135_0)
  replace p135:=eq_true p135
  replace q135:=eq_true q135
  have p136:0<=(0:Int):=(by omega)
  have q136:0<(l0.length:Int):=oD_ z6_1
  obtain ⟨ad136,e136,hx136_0⟩:=Kd.at_int HR0.out 0 p136 q136
  obtain rfl:ad135=ad136:=(by injection e136)
  have qi136:(0<l0.length)=True:=eq_true (by omega)
  (try rw [show((0:Int)).toNat=0 from rfl] at hx136_0)
  (try rw [Addr.add_zero'] at hx136_0)
  replace p136:=eq_true p136
  replace q136:=eq_true q136
  have p137:0<=(0:Int):=(by omega)
  have q137:0<(l0.length:Int):=oD_ z6_1
  obtain ⟨ad137,e137,hx137_0⟩:=Kd.at_int HR0.out 0 p137 q137
  obtain rfl:ad135=ad137:=(by injection e137)
  have qi137:(0<l0.length)=True:=eq_true (by omega)
  (try rw [show((0:Int)).toNat=0 from rfl] at hx137_0)
  (try rw [Addr.add_zero'] at hx137_0)
  replace p137:=eq_true p137
  replace q137:=eq_true q137
  have p138:0<=(1:Int):=(by omega)
  have q138:1<(l0.length:Int):=oD_ z6_1
  obtain ⟨ad138,e138,hx138_0⟩:=Kd.at_int HR0.out 1 p138 q138
  obtain rfl:ad135=ad138:=(by injection e138)
  (try simp only [show(1:Int).toNat=1 from rfl,Nat.reduceMul,Nat.reduceEqDiff,Go.Addr.add,↓reduceIte] at hx138_0)
  have qi138:(1<l0.length)=True:=eq_true (by omega)
  (try rw [show((1:Int)).toNat=1 from rfl] at hx138_0)
  replace p138:=eq_true p138
  replace q138:=eq_true q138
  go_wp2
  go_meet
  case rel=>exact ⟨_,(((rd l0 1) == 0)),z6_4,H',⟨z6_8⟩,z6_3⟩
 case rest =>
 clear HC2
 try clear p1
 try clear q1
 try clear hx1
 try clear qi1
 try clear p2
 try clear c3
 try clear c3b0
 try clear c3b1
 try clear c3b2
 try clear c4
 try clear c4b0
 try clear c4b1
 try clear c5
 try clear c5b0
 try clear c6
 try clear c6b0
 try clear p6
 try clear c7
 try clear c7b0
 try clear c8
 try clear c8b0
 try clear c8b1
 try clear hx135_0
 try clear hx136_0
 try clear hx137_0
 try clear hx138_0
 try clear p135
 try clear p136
 try clear p137
 try clear p138
 try clear q135
 try clear q136
 try clear q137
 try clear q138
 obtain ⟨kq,x38_1,rfl,HA,HJ1,⟨mc1,rfl⟩⟩:=hcut
 cases kq with
 | zero=>exact absurd HA.out (by simp [wire_GetNum.j0])
 | succ kj1 =>
 have H:=HA.out
 clear HA
 simp only [wire_GetNum.j0] at H
 by_cases c9:x38_1=true
 ·subst c9
  have H1:(some (0,0,2))=some (r1,r2,r3):=by rw [if_pos rfl] at H;exact H
  clear H
  have H:=H1
  clear H1
  simp only [Option.some.injEq,Prod.mk.injEq] at H
  obtain ⟨rfl,rfl,rfl⟩:=H
  go_wp2
  go_ret3
  exact ⟨z6_4,z6_3⟩
 replace c9:=Bool.eq_false_iff.mpr c9
 subst c9
 have H1:(if 0<(l0.length:Int) then(if 1<=(wrap64 ((wrap64 (rd l0 0))+1)) then(if (wrap64 ((wrap64 (rd l0 0))+1))<=(l0.length:Int) then(wire_GetNum.l0 kj1 (wrap64 ((wrap64 (rd l0 0))+1)) 0 ((l0.take ((wrap64 ((wrap64 (rd l0 0))+1)):Int).toNat).drop 1) (((l0.take ((wrap64 ((wrap64 (rd l0 0))+1)):Int).toNat).drop 1).length:Int) 0) else(none)) else(none)) else(none))=some (r1,r2,r3):=by rw [if_neg (show ¬ (false=true) by decide)] at H;exact H
 clear H
 have H:=H1
 clear H1
 by_cases c10:0<(l0.length:Int)
 rotate_left
 ·rw [if_neg c10] at H
  exact absurd H (by simp)
 rw [if_pos c10] at H
 have c10b0:decide (0<(l0.length:Int))=true:=dT_ c10
 have c10b1:decide (0<l0.length)=true:=dT_ (by omega)
 clear c10
 by_cases c11:1<=(wrap64 ((wrap64 (rd l0 0))+1))
 rotate_left
 ·rw [if_neg c11] at H
  exact absurd H (by simp)
 rw [if_pos c11] at H
 have c11b0:=eq_true c11
 have c11b1:decide (1<=(wrap64 ((wrap64 (rd l0 0))+1)))=true:=dT_ c11
 by_cases c12:(wrap64 ((wrap64 (rd l0 0))+1))<=(l0.length:Int)
 rotate_left
 ·rw [if_neg c12] at H
  exact absurd H (by simp)
 rw [if_pos c12] at H
 have c12b0:=eq_true c12
 have c12b1:decide ((wrap64 ((wrap64 (rd l0 0))+1))<=(l0.length:Int))=true:=dT_ c12
 have H':=Aside0.mk H
 clear H
 have p139:0<=(0:Int):=(by omega)
 have q139:0<(l0.length:Int):=oD_ z6_1
 obtain ⟨ad139,e139,hx139_0⟩:=Kd.at_int HR0.out 0 p139 q139
 cases e139
 have qi139:(0<l0.length)=True:=eq_true (by omega)
 (try rw [show((0:Int)).toNat=0 from rfl] at hx139_0)
 (try rw [Addr.add_zero'] at hx139_0)
 replace p139:=eq_true p139
 replace q139:=eq_true q139
 obtain ⟨i013,hi013,_,hsz13,_⟩:=info_parts info5
 obtain ⟨A13,hcut13,hA13,hC13⟩:=print_mid_of (P:=Try.prog) (Value.int .u8) 0 22 5 .i64 .i64 Try.underlying22 hi013 hsz13 (some ad139) c0 l0 1 (wrap64 ((wrap64 (rd l0 0))+1)) (by omega) (by first|omega|exact oD_ z6_1) (oD_ z6_1) HC0.out
 have HR140:=U (Kd.C_of_reads (h1:=λ_=>rfl) (hA13 _ (Kd.reads_of_C HR0.out)))
 have HC140:=Aside0.mk hC13
 clear hA13 hC13 hi013 hsz13
 (try simp only [show Int.toNat 1=1 from rfl] at hcut13)
 (try simp only [show Int.toNat 1=1 from rfl] at HC0)
 (try simp only [show Int.toNat 1=1 from rfl] at HC140)
 (try simp only [show Int.toNat 1=1 from rfl] at HR0)
 (try simp only [show Int.toNat 1=1 from rfl] at HR140)
 obtain ⟨Y13,hY13⟩:∃ y_:List Int,y_=((l0.take ((wrap64 ((wrap64 (rd l0 0))+1)):Int).toNat).drop 1):=⟨_,rfl⟩
 (try rw [<-hY13] at hcut13)
 (try rw [<-hY13] at HC0)
 (try rw [<-hY13] at HC140)
 (try rw [<-hY13] at HR0)
 (try rw [<-hY13] at HR140)
 (try rw [<-hY13] at H')
 have NY13:=Aside0.mk hY13
 clear hY13
 go_wp2
 go_loopg [6,48] kj1 (λkq v6 v48 w'=>∃ (x6_2:Int) (x48_2:Int),v6 = .int .u64 x6_2/\v48 = .int .i64 x48_2/\Aside0 (wire_GetNum.l0 kq (wrap64 ((wrap64 (rd l0 0))+1)) x6_2 Y13 (Y13.length:Int) x48_2=some (r1,r2,r3))/\Aside0 (kq<=kj1)/\Drawn0 w w')
 case atStart=>exact ⟨(0),(0),z6_4,z6_4,H',⟨Nat.le_refl _⟩,z6_3⟩
 case round =>
 clear H'
 try clear c1
 try clear p1
 try clear q1
 try clear hx1
 try clear qi1
 try clear p2
 try clear c3
 try clear c3b0
 try clear c3b1
 try clear c3b2
 try clear c4
 try clear c4b0
 try clear c4b1
 try clear c5
 try clear c5b0
 try clear c6
 try clear c6b0
 try clear p6
 try clear c7
 try clear c7b0
 try clear c8
 try clear c8b0
 try clear c8b1
 try clear c9
 try clear c10
 try clear c10b0
 try clear c10b1
 try clear c11
 try clear c11b0
 try clear c11b1
 try clear c12
 try clear c12b0
 try clear c12b1
 try clear p13
 try clear q13
 try clear hx13
 try clear qi13
 try clear hx135_0
 try clear hx136_0
 try clear hx137_0
 try clear hx138_0
 try clear hx139_0
 try clear p1
 try clear p135
 try clear p136
 try clear p137
 try clear p138
 try clear p139
 try clear p2
 try clear p6
 try clear q1
 try clear q135
 try clear q136
 try clear q137
 try clear q138
 try clear q139
 obtain ⟨x6_2,x48_2,rfl,rfl,HA,HK2,⟨m2,rfl⟩⟩:=hrel
 cases gk with
 | zero=>exact absurd HA.out (by simp [wire_GetNum.l0])
 | succ k2 =>
 have H:=HA.out
 clear HA
 simp only [wire_GetNum.l0] at H
 by_cases c14:x48_2<(Y13.length:Int)
 rotate_left
 ·rw [if_neg c14] at H
  have c14b0:decide (x48_2<(Y13.length:Int))=false:=dF_ c14
  clear c14
  simp only [Option.some.injEq,Prod.mk.injEq] at H
  obtain ⟨rfl,rfl,rfl⟩:=H
  go_wp2
  go_ret3
  exact ⟨z6_4,z6_3⟩
 rw [if_pos c14] at H
 have c14b0:decide (x48_2<(Y13.length:Int))=true:=dT_ c14
 clear c14
 by_cases c15:0<=x48_2
 rotate_left
 ·rw [if_neg c15] at H
  exact absurd H (by simp)
 rw [if_pos c15] at H
 have c15b0:decide (0<=x48_2)=true:=dT_ c15
 clear c15
 by_cases c16:x48_2<(Y13.length:Int)
 rotate_left
 ·rw [if_neg c16] at H
  exact absurd H (by simp)
 rw [if_pos c16] at H
 have c16b0:decide (x48_2<(Y13.length:Int))=true:=dT_ c16
 clear c16
 have H':=Aside0.mk H
 clear H
 have p141:0<=(x48_2:Int):=oD_ z6_1
 have q141:x48_2<(Y13.length:Int):=oD_ z6_1
 obtain ⟨ad141,e141,hx141_0⟩:=Kd.at_int HR140.out x48_2 p141 q141
 cases e141
 replace p141:=eq_true p141
 replace q141:=eq_true q141
 go_wp2
 go_roundg k2
 case measure=>have:=HJ1.out;have:=HK2.out;omega
 case rel=>exact ⟨(Go.bits .or .u64 (IntKind.u64.wrap (x6_2*256)) (IntKind.u64.wrap (rd Y13 x48_2))),(wrap64 (x48_2+1)),z6_4,z6_4,H',⟨(by have:=HJ1.out;have:=HK2.out;omega)⟩,z6_3⟩
def bytes_Clone.f (l0:List Int):Option (List Int):=(some (([]:List Int):List Int)).bind λy142=>(if y142.length+l0.length<140737488355328 then(some (y142++l0)) else(none))
theorem bytes_Clone.calls_some (A0_:Addr) (c0:Nat) (l0:List Int) (r:List Int) (w:World) (hr0:Kd.C (Kd.int .u8) w (some A0_) l0.length l0) (hc0:l0.length<=c0) (h:bytes_Clone.f l0=some r) :
  Calls Try.prog 108 #[.slice (some A0_) l0.length c0] w λe w'=>∃ v0_:Value,e = .returned (v0_)/\Kd.R (Kd.int .u8) 5 w' w.heap.size (λ_=>True) v0_ r/\Below w.heap.size w w':=by
 have HR0:=Aside0.mk hr0
 have HC0:=Aside0.mk hc0
 clear hr0 hc0
 have HB:=U (Below.refl w.heap.size w)
 have H:((some (([]:List Int):List Int)).bind λy142=>(if y142.length+l0.length<140737488355328 then(some (y142++l0)) else(none)))=some r:=h
 clear h
 obtain ⟨y142,hy142⟩:∃ y_:List Int,y_=(([]:List Int)):=⟨_,rfl⟩
 replace H:(if y142.length+l0.length<140737488355328 then(some (y142++l0)) else(none))=some r:=by first|(rw [hy142];with_reducible exact H)|(have H2_:=(Option.bind_some _ _).symm.trans H;rw [hy142];with_reducible exact H2_)|(have H2_:=(Option.bind_some _ _).symm.trans H;with_reducible exact H2_)|with_reducible exact H|(rw [hy142];exact H)|exact H
 have Ny142:=Aside0.mk hy142
 clear hy142
 by_cases c2:y142.length+l0.length<140737488355328
 rotate_left
 ·rw [if_neg c2] at H
  exact absurd H (by simp)
 rw [if_pos c2] at H
 have LMc2:=Aside0.mk c2
 clear c2
 obtain ⟨y145,hy145⟩:∃ y_:List Int,y_=(y142++l0):=⟨_,rfl⟩
 replace H:(some y145)=some r:=by first|(rw [hy145];with_reducible exact H)|(have H2_:=(Option.bind_some _ _).symm.trans H;rw [hy145];with_reducible exact H2_)|(have H2_:=(Option.bind_some _ _).symm.trans H;with_reducible exact H2_)|with_reducible exact H|(rw [hy145];exact H)|exact H
 have Ny145:=Aside0.mk hy145
 clear hy145
 obtain rfl:=sI_ H
 have hnil_:=λW:World=>Lib.run_eql_slice_nil (P:=Try.prog) W 22 5 (some A0_) l0.length c0 0 0 (by kernel_rfl)
 go_enter Try.func108,Try.ntmps108
 go_wp2_with (first|((with_reducible refine gate_dst (N:=5) rfl ?_);refine Kd.R_lit (Kd.int .u8) _ 5 ?hg (N:=5) ?hd (xs:=([]:List Int)) (inner:=[]) (ok:=λ_=>True) (okp:=λ_=>True) ?hr ?hp (λ_ hk=>hk) trivial (Below.refl _ _) (Nat.le_refl _) (by simp) ?_;(case hd=>rfl);(case hg=>rfl);(case hr=>first|(go_simp;done)|(go_simp;rfl));(case hp=>exact(Reps.none _ _));intro v143 w3 ho4 hb hg_ hnew_;clear hg_ hnew_;(first|rw [<-Ny142.out] at ho4|(simp only [Int.reduceToNat] at ho4;rw [<-Ny142.out] at ho4));have HO144:=U (Kd.R_lower ho4 (below_size z6_0));replace HB:=U (below_step z6_0 hb);clear hb ho4)|((with_reducible refine gate_builtin (b:=.append) (xs:=#[.tmp 5,.tmp 6]) rfl ?_);at_builtin;refine Kd.R_append_rows (Kd.int .u8) (w0:=w) w.heap.size rfl (.tmp 5) (.tmp 6) 22 5 (.int .u8 0) 1 rfl Try.underlying22 info5 rfl (by decide) (by omega) v143 y142 l0 _ _ _ (λ_=>True) (λ_=>False) rfl rfl ?aO ?aR (λ_ _ h=>h) (λ_ h=>h.elim) ?aF ?aB ?aS ?aL ?_;(case aR=>repeat(first|exact(Kd.C_below HR0.out HB.out)|(with_reducible refine Kd.C_alloc ?_ _)|(with_reducible refine Kd.C_drewN ?_ _)|(with_reducible refine Kd.C_drew ?_)));(case aB=>exact z6_0);(case aF=>exact(λ_ _=>trivial));(case aO=>exact(by(with_reducible repeat(first|apply Kd.R_alloc|apply Kd.R_drewN|apply Kd.R_drew));exact HO144.out));(case aS=>exact(below_size z6_0));(case aL=>have:=LMc2.out;omega);intro v146 w5 ho hb hg hat;rw [<-Ny145.out] at ho;replace HB:=U (hb);have HO147:=U (ho);clear HO144;clear ho hb hg hat))
 go_ret
 exact ⟨_,z6_6,(by(with_reducible repeat(first|apply Kd.R_alloc|apply Kd.R_drewN|apply Kd.R_drew));exact HO147.out),z6_0⟩
theorem bytes_Clone.calls (A0:Option Addr) (c0:Nat) (l0:List Int) (r:List Int) (w:World) (hr0:Kd.C (Kd.int .u8) w A0 l0.length l0) (hc0:l0.length<=c0) (h:bytes_Clone.f l0=some r) :
  Calls Try.prog 108 #[.slice A0 l0.length c0] w λe w'=>∃ v0_:Value,e = .returned (v0_)/\Kd.R (Kd.int .u8) 5 w' w.heap.size (λ_=>True) v0_ r/\Below w.heap.size w w':=by
 cases A0 with
 | some A0_=>exact bytes_Clone.calls_some _ c0 l0 r w hr0 hc0 h
 | none =>
 have hl:l0=[]:=by
  rcases Nat.eq_zero_or_pos l0.length with h0|h0
  ·exact List.length_eq_zero_iff.1 h0
  ·obtain ⟨ad,e,_⟩:=hr0.2.2 h0
   cases e
 subst hl
 obtain rfl:r=[]:=by
  simp [bytes_Clone.f] at h
  first|exact h|exact h.symm
 have hnil_:=λW:World=>Lib.run_eql_slice_nil (P:=Try.prog) W 22 5 none 0 c0 0 0 (by kernel_rfl)
 clear h
 go_enter Try.func108,Try.ntmps108
 go_wp2
 go_ret
 exact ⟨_,rfl,(by first|exact Kd.R_nil _ _ _ _ _|exact Kd.N_nil _ _ _ _ _|exact Kd.V_nil _ _ _ _ _),Below.refl _ _⟩
def wire_GetText.f (k:Nat) (l0:List Int):Option (List Int×Int×Int):=(wire_GetNum.f k l0).bind λbt148=>(if bt148.2.2=0 then(if bt148.1 > 65536 then(some (([]:List Int),0,2)) else(if (wrap64 (bt148.1)) > (wrap64 ((l0.length:Int) - bt148.2.1)) then(some (([]:List Int),0,2)) else(if 0<=bt148.2.1 then(if bt148.2.1<=(wrap64 (bt148.2.1+(wrap64 (bt148.1)))) then(if (wrap64 (bt148.2.1+(wrap64 (bt148.1))))<=(l0.length:Int) then((bytes_Clone.f ((l0.take ((wrap64 (bt148.2.1+(wrap64 (bt148.1)))):Int).toNat).drop (bt148.2.1:Int).toNat)).bind λt152=>(some (t152,wrap64 (bt148.2.1+(wrap64 (bt148.1))),0))) else(none)) else(none)) else(none)))) else(some (([]:List Int),0,2)))
theorem wire_GetText.mono:∀ a0 k,LeO (wire_GetText.f k a0) (wire_GetText.f (k+1) a0):=by
 intro a0 k
 unfold wire_GetText.f
 repeat' first
  | (with_reducible exact wire_GetNum.mono _ _)
  | (with_reducible exact LeO.refl _)
  | (with_reducible exact LeO.none _)
  | (with_reducible refine LeO.ite ?_ ?_)
  | (with_reducible refine LeO.bind ?_ (λ_=>?_))
theorem wire_GetText.calls (k:Nat) (A0:Option Addr) (c0:Nat) (l0:List Int) (r1:List Int) (r2:Int) (r3:Int) (w:World) (hr0:Kd.C (Kd.int .u8) w A0 l0.length l0) (hc0:l0.length<=c0) (h:wire_GetText.f k l0=some (r1,r2,r3)) :
  Calls Try.prog 100 #[.slice A0 l0.length c0] w λe w'=>∃ v0_:Value,e = .returned (.tuple #[v0_,.int .i64 r2,.int .i64 r3])/\Kd.R (Kd.int .u8) 5 w' w.heap.size (λ_=>True) v0_ r1/\Below w.heap.size w w':=by
 have HR0:=Aside0.mk hr0
 have HC0:=Aside0.mk hc0
 clear hr0 hc0
 have HB:=U (Below.refl w.heap.size w)
 have H:((wire_GetNum.f k l0).bind λbt148=>(if bt148.2.2=0 then(if bt148.1 > 65536 then(some (([]:List Int),0,2)) else(if (wrap64 (bt148.1)) > (wrap64 ((l0.length:Int) - bt148.2.1)) then(some (([]:List Int),0,2)) else(if 0<=bt148.2.1 then(if bt148.2.1<=(wrap64 (bt148.2.1+(wrap64 (bt148.1)))) then(if (wrap64 (bt148.2.1+(wrap64 (bt148.1))))<=(l0.length:Int) then((bytes_Clone.f ((l0.take ((wrap64 (bt148.2.1+(wrap64 (bt148.1)))):Int).toNat).drop (bt148.2.1:Int).toNat)).bind λt152=>(some (t152,wrap64 (bt148.2.1+(wrap64 (bt148.1))),0))) else(none)) else(none)) else(none)))) else(some (([]:List Int),0,2))))=some (r1,r2,r3):=h
 clear h
 replace H:=oB_ H
 obtain ⟨⟨t148,t149,t150⟩,A20,H⟩:=H
 replace H:(if t150=0 then(if t148 > 65536 then(some (([]:List Int),0,2)) else(if (wrap64 (t148)) > (wrap64 ((l0.length:Int) - t149)) then(some (([]:List Int),0,2)) else(if 0<=t149 then(if t149<=(wrap64 (t149+(wrap64 (t148)))) then(if (wrap64 (t149+(wrap64 (t148))))<=(l0.length:Int) then((bytes_Clone.f ((l0.take ((wrap64 (t149+(wrap64 (t148)))):Int).toNat).drop (t149:Int).toNat)).bind λt152=>(some (t152,wrap64 (t149+(wrap64 (t148))),0))) else(none)) else(none)) else(none)))) else(some (([]:List Int),0,2)))=some (r1,r2,r3):=H
 have A2:=Aside0.mk A20
 clear A20
 by_cases c3:t150=0
 rotate_left
 ·rw [if_neg c3] at H
  have c3b0:(t150 == 0)=false:=beq_eq_false_iff_ne.mpr c3
  have c3b1:(t150 != 0)=true:=bne_iff_ne.mpr c3
  simp only [Option.some.injEq,Prod.mk.injEq] at H
  obtain ⟨rfl,rfl,rfl⟩:=H
  go_enter Try.func100,Try.ntmps100
  go_wp2_with (first|((with_reducible refine gate_callee (f:=86) rfl ?_);refine goesL_ (some 11) rfl rfl Try.func86 (by kernel_rfl) rfl #[.slice A0 l0.length c0] rfl z6_5 ?_;(with_reducible refine(wire_GetNum.calls k _ _ l0 t148 t149 t150 _ ?side1 ?side2 A2.out).mono ?_);(case side1=>exact z6_2);(case side2=>exact HC0.out);rintro e w' ⟨rfl,⟨nd,rfl⟩⟩;refine ⟨_,rfl,?_⟩))
  go_ret3
  exact ⟨_,z6_6,z6_7,z6_0⟩
 rw [if_pos c3] at H
 have c3b0:(t150 == 0)=true:=beq_iff_eq.mpr c3
 have c3b1:(t150 != 0)=false:=bne_eq_false_iff_eq.mpr c3
 clear c3
 by_cases c4:t148 > 65536
 ·rw [if_pos c4] at H
  have c4b0:decide (65536<t148)=true:=dT_ c4
  clear c4
  simp only [Option.some.injEq,Prod.mk.injEq] at H
  obtain ⟨rfl,rfl,rfl⟩:=H
  go_enter Try.func100,Try.ntmps100
  go_wp2_with (first|((with_reducible refine gate_callee (f:=86) rfl ?_);refine goesL_ (some 11) rfl rfl Try.func86 (by kernel_rfl) rfl #[.slice A0 l0.length c0] rfl z6_5 ?_;(with_reducible refine(wire_GetNum.calls k _ _ l0 t148 t149 t150 _ ?side1 ?side2 A2.out).mono ?_);(case side1=>exact z6_2);(case side2=>exact HC0.out);rintro e w' ⟨rfl,⟨nd,rfl⟩⟩;refine ⟨_,rfl,?_⟩))
  go_ret3
  exact ⟨_,z6_6,z6_7,z6_0⟩
 rw [if_neg c4] at H
 have c4b0:decide (65536<t148)=false:=dF_ c4
 clear c4
 by_cases c5:(wrap64 (t148)) > (wrap64 ((l0.length:Int) - t149))
 ·rw [if_pos c5] at H
  have c5b0:decide ((wrap64 ((l0.length:Int) - t149))<(wrap64 (t148)))=true:=dT_ c5
  clear c5
  simp only [Option.some.injEq,Prod.mk.injEq] at H
  obtain ⟨rfl,rfl,rfl⟩:=H
  go_enter Try.func100,Try.ntmps100
  go_wp2_with (first|((with_reducible refine gate_callee (f:=86) rfl ?_);refine goesL_ (some 11) rfl rfl Try.func86 (by kernel_rfl) rfl #[.slice A0 l0.length c0] rfl z6_5 ?_;(with_reducible refine(wire_GetNum.calls k _ _ l0 t148 t149 t150 _ ?side1 ?side2 A2.out).mono ?_);(case side1=>exact z6_2);(case side2=>exact HC0.out);rintro e w' ⟨rfl,⟨nd,rfl⟩⟩;refine ⟨_,rfl,?_⟩))
  go_ret3
  exact ⟨_,z6_6,z6_7,z6_0⟩
 rw [if_neg c5] at H
 have c5b0:decide ((wrap64 ((l0.length:Int) - t149))<(wrap64 (t148)))=false:=dF_ c5
 clear c5
 by_cases c6:0<=t149
 rotate_left
 ·rw [if_neg c6] at H
  exact absurd H (by simp)
 rw [if_pos c6] at H
 have c6b0:=eq_true c6
 have c6b1:decide (0<=t149)=true:=dT_ c6
 clear c6
 by_cases c7:t149<=(wrap64 (t149+(wrap64 (t148))))
 rotate_left
 ·rw [if_neg c7] at H
  exact absurd H (by simp)
 rw [if_pos c7] at H
 have c7b0:=eq_true c7
 have c7b1:decide (t149<=(wrap64 (t149+(wrap64 (t148)))))=true:=dT_ c7
 by_cases c8:(wrap64 (t149+(wrap64 (t148))))<=(l0.length:Int)
 rotate_left
 ·rw [if_neg c8] at H
  exact absurd H (by simp)
 rw [if_pos c8] at H
 have c8b0:=eq_true c8
 have c8b1:decide ((wrap64 (t149+(wrap64 (t148))))<=(l0.length:Int))=true:=dT_ c8
 replace H:=oB_ H
 obtain ⟨t152,A90,H⟩:=H
 replace H:(some (t152,wrap64 (t149+(wrap64 (t148))),0))=some (r1,r2,r3):=H
 have A9:=Aside0.mk A90
 clear A90
 simp only [Option.some.injEq,Prod.mk.injEq] at H
 obtain ⟨rfl,rfl,rfl⟩:=H
 go_enter Try.func100,Try.ntmps100
 go_wp2_with (first|((with_reducible refine gate_callee (f:=86) rfl ?_);refine goesL_ (some 11) rfl rfl Try.func86 (by kernel_rfl) rfl #[.slice A0 l0.length c0] rfl z6_5 ?_;(with_reducible refine(wire_GetNum.calls k _ _ l0 t148 t149 t150 _ ?side1 ?side2 A2.out).mono ?_);(case side1=>exact z6_2);(case side2=>exact HC0.out);rintro e w' ⟨rfl,⟨nd,rfl⟩⟩;refine ⟨_,rfl,?_⟩;obtain ⟨i010,hi010,_,hsz10,_⟩:=info_parts info5;obtain ⟨A10,hcut10,hA10,hC10⟩:=print_mid_of (P:=Try.prog) (Value.int .u8) 0 22 5 .i64 .i64 Try.underlying22 hi010 hsz10 A0 c0 l0 t149 (wrap64 (t149+(wrap64 (t148)))) (oD_ z6_1) (by first|omega|exact oD_ z6_1) (oD_ z6_1) HC0.out;have HR151:=U (Kd.C_of_reads (h1:=λ_=>rfl) (hA10 _ (Kd.reads_of_C HR0.out)));have HC151:=Aside0.mk hC10;clear hA10 hC10 hi010 hsz10)|((with_reducible refine gate_callee (f:=108) rfl ?_);refine goesL_ (some 38) rfl rfl Try.func108 (by kernel_rfl) rfl #[.slice A10 ((l0.take ((wrap64 (t149+(wrap64 (t148)))):Int).toNat).drop (t149:Int).toNat).length (c0 - t149.toNat)] rfl (by(try simp only [List.map_toArray,List.map_cons,List.map_nil]);first|done|(rw [show((l0.take ((wrap64 (t149+(wrap64 (t148)))):Int).toNat).drop (t149:Int).toNat).length=((wrap64 (t149+(wrap64 (t148)))).toNat - t149.toNat) from(by rw [List.length_drop,List.length_take];have h_:((wrap64 (t149+(wrap64 (t148)))):Int)<=(l0.length:Int):=oD_ z6_1;omega)]<;>rfl)|rfl|(simp only [List.length_drop,List.length_take];rfl)) ?_;(with_reducible refine(bytes_Clone.calls _ _ ((l0.take ((wrap64 (t149+(wrap64 (t148)))):Int).toNat).drop (t149:Int).toNat) t152 _ ?side1 ?side2 A9.out).mono ?_);(case side1=>repeat(first|exact HR151.out|(with_reducible refine Kd.C_alloc ?_ _)|(with_reducible refine Kd.C_drewN ?_ _)|(with_reducible refine Kd.C_drew ?_)));(case side2=>exact HC151.out);rintro e w11 ⟨v153,rfl,ho0,hb⟩;refine ⟨_,rfl,?_⟩;have HO154:=U (Kd.R_lower ho0 (below_size z6_0));replace HB:=U (below_step z6_0 hb);(try clear hb);(try clear hb2);(try clear hk);(try clear hi);(try clear ho0)))
 go_ret3
 exact ⟨_,z6_6,(by(with_reducible repeat(first|apply Kd.R_alloc|apply Kd.R_drewN|apply Kd.R_drew));exact HO154.out),z6_0⟩
end Go.Proofs.Ytgocnchjpecafaa.PEv
