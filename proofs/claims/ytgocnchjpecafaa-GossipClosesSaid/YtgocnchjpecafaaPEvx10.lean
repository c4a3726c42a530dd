/- a part -/
import Derived.Test.YtgocnchjpecafaaPEvx0
namespace Go.Proofs.Ytgocnchjpecafaa.PEv
open Go.RowKit Go.Proofs.YtgocnchjpecafaaW.PrintWords Go.Proofs.YtgocnchjpecafaaW.PrintLast Go.Proofs.YtgocnchjpecafaaW.PrintMore
attribute [local go_sem] max2_int min2_int max_two min_two max_three min_three max_four min_four
set_option linter.unusedVariables false
set_option linter.unusedSimpArgs false
set_option maxHeartbeats 8000000
set_option maxRecDepth 100000
theorem z10_0 {P:Prop} (h:P:=by repeat(first|(with_reducible first|exact HB.out|apply below_alloc|apply pw_below_drewN|apply below_drew1)|exact HB.out)):P:=h
theorem z10_1 {P:Prop} (h:P:=by first|(with_reducible assumption)|assumption):P:=h
theorem z10_2 {P:Prop} (h:P:=by(try simp only [List.map_toArray,List.map_cons,List.map_nil]);first|done|rfl|(simp only [List.length_drop,List.length_take];rfl)):P:=h
theorem z10_3 {P:Prop} (h:P:=by repeat(first|exact Drawn0.refl _|apply Drawn0.step)):P:=h
theorem z10_4 {P:Prop} (h:P:=by first|rfl|(simp;done)|(simp [*];done)):P:=h
theorem z10_5 {P:Prop} (h:P:=by repeat(first|(with_reducible first|exact HB.out|apply below_alloc|apply pw_below_drewN|apply below_drew1|refine below_set ?_ GE231.out)|exact HB.out)):P:=h
theorem z10_6 {P:Prop} (h:P:=by repeat(first|exact HR0.out|(with_reducible refine Kd.C_alloc ?_ _)|(with_reducible refine Kd.C_drewN ?_ _)|(with_reducible refine Kd.C_drew ?_))):P:=h
theorem z10_7 {P:Prop} (h:P:=by(with_reducible repeat(first|apply Kd.R_alloc|apply Kd.R_drewN|apply Kd.R_drew));exact HO_3.out):P:=h
theorem z10_8 {P:Prop} (h:P:=by first|rfl|(simp [errW_none,errW_some]<;>rfl)|(simp [*,errW_none,errW_some]<;>rfl)):P:=h
theorem z10_9 {P:Prop} (h:P:=by repeat(first|exact(Kd.C_below HR0.out HB.out)|(with_reducible refine Kd.C_alloc ?_ _)|(with_reducible refine Kd.C_drewN ?_ _)|(with_reducible refine Kd.C_drew ?_))):P:=h
theorem z10_10 {P:Prop} (h:P:=by first|(go_simp;done)|(go_simp;rfl)):P:=h
def r03_May.l0:Nat->List Int->Int->Option (Bool)
 | 0,_,_=>none
 | k+1,x0,x3=>if x3<(x0.length:Int) then(if 0<=x3 then(if (rd x0 x3)<0 then(some false) else(if (rd x0 x3) > 1048576 then(some false) else(r03_May.l0 k x0 (wrap64 (x3+1))))) else(none)) else(some (decide ((x0.length:Int)<=5)))
def r03_May.f (k:Nat) (l0:List Int):Option (Bool):=r03_May.l0 k l0 0
theorem r03_May.calls (k:Nat) (A0:Option Addr) (c0:Nat) (l0:List Int) (r:Bool) (w:World) (hr0:Kd.C (Kd.int .i64) w A0 l0.length l0) (hc0:l0.length<=c0) (h:r03_May.f k l0=some r) :
  Calls Try.prog 43 #[.slice A0 l0.length c0] w λe w'=>e = .returned (.bool r)/\Drawn0 w w':=by
 have HR0:=Aside0.mk hr0
 have HC0:=Aside0.mk hc0
 clear hr0 hc0
 have H:(r03_May.l0 k l0 0)=some r:=h
 clear h
 have H':=Aside0.mk H
 clear H
 go_enter Try.func43,Try.ntmps43
 go_wp2
 go_loopg [3] k (λkq v3 w'=>∃ (x3_1:Int),v3 = .int .i64 x3_1/\Aside0 (r03_May.l0 kq l0 x3_1=some r)/\Aside0 (kq<=k)/\Drawn0 w w')
 case atStart=>exact ⟨(0),z10_4,H',⟨Nat.le_refl _⟩,z10_3⟩
 case round =>
 clear H'
 obtain ⟨x3_1,rfl,HA,HK1,⟨m1,rfl⟩⟩:=hrel
 cases gk with
 | zero=>exact absurd HA.out (by simp [r03_May.l0])
 | succ k1 =>
 have H:=HA.out
 clear HA
 simp only [r03_May.l0] at H
 by_cases c2:x3_1<(l0.length:Int)
 rotate_left
 ·rw [if_neg c2] at H
  have c2b0:decide (x3_1<(l0.length:Int))=false:=dF_ c2
  clear c2
  obtain rfl:=sI_ H
  go_wp2
  go_ret
  exact ⟨z10_4,z10_3⟩
 rw [if_pos c2] at H
 have c2b0:decide (x3_1<(l0.length:Int))=true:=dT_ c2
 clear c2
 by_cases c3:0<=x3_1
 rotate_left
 ·rw [if_neg c3] at H
  exact absurd H (by simp)
 rw [if_pos c3] at H
 have c3b0:decide (0<=x3_1)=true:=dT_ c3
 clear c3
 by_cases c4:(rd l0 x3_1)<0
 ·rw [if_pos c4] at H
  have c4b0:decide ((rd l0 x3_1)<0)=true:=dT_ c4
  clear c4
  obtain rfl:=sI_ H
  have p214:0<=(x3_1:Int):=oD_ z10_1
  have q214:x3_1<(l0.length:Int):=oD_ z10_1
  obtain ⟨ad214,e214,hx214_0⟩:=Kd.at_int HR0.out x3_1 p214 q214
  cases e214
  replace p214:=eq_true p214
  replace q214:=eq_true q214
  go_wp2
  go_ret
  exact ⟨z10_4,z10_3⟩
 rw [if_neg c4] at H
 have c4b0:decide ((rd l0 x3_1)<0)=false:=dF_ c4
 clear c4
 by_cases c5:(rd l0 x3_1) > 1048576
 ·rw [if_pos c5] at H
  have c5b0:decide (1048576<(rd l0 x3_1))=true:=dT_ c5
  clear c5
  obtain rfl:=sI_ H
  have p214:0<=(x3_1:Int):=oD_ z10_1
  have q214:x3_1<(l0.length:Int):=oD_ z10_1
  obtain ⟨ad214,e214,hx214_0⟩:=Kd.at_int HR0.out x3_1 p214 q214
  cases e214
  replace p214:=eq_true p214
  replace q214:=eq_true q214
  have p215:0<=(x3_1:Int):=oD_ z10_1
  have q215:x3_1<(l0.length:Int):=oD_ z10_1
  obtain ⟨ad215,e215,hx215_0⟩:=Kd.at_int HR0.out x3_1 p215 q215
  obtain rfl:ad214=ad215:=(by injection e215)
  replace p215:=eq_true p215
  replace q215:=eq_true q215
  go_wp2
  go_ret
  exact ⟨z10_4,z10_3⟩
 rw [if_neg c5] at H
 have c5b0:decide (1048576<(rd l0 x3_1))=false:=dF_ c5
 clear c5
 have H':=Aside0.mk H
 clear H
 have p214:0<=(x3_1:Int):=oD_ z10_1
 have q214:x3_1<(l0.length:Int):=oD_ z10_1
 obtain ⟨ad214,e214,hx214_0⟩:=Kd.at_int HR0.out x3_1 p214 q214
 cases e214
 replace p214:=eq_true p214
 replace q214:=eq_true q214
 have p215:0<=(x3_1:Int):=oD_ z10_1
 have q215:x3_1<(l0.length:Int):=oD_ z10_1
 obtain ⟨ad215,e215,hx215_0⟩:=Kd.at_int HR0.out x3_1 p215 q215
 obtain rfl:ad214=ad215:=(by injection e215)
 replace p215:=eq_true p215
 replace q215:=eq_true q215
 go_wp2
 go_roundg k1
 case measure=>have:=HK1.out;omega
 case rel=>exact ⟨(wrap64 (x3_1+1)),z10_4,H',⟨(by have:=HK1.out;omega)⟩,z10_3⟩
def r03_Get.f (k:Nat) (l0:List Int) (a1:Int):Option (Int):=(r03_May.f k l0).bind λt216=>(if t216=true then(if a1<1 then(some 0) else(if a1 > (l0.length:Int) then(some 0) else(if 0<=(wrap64 (a1 - 1)) then(if (wrap64 (a1 - 1))<(l0.length:Int) then(some (rd l0 (wrap64 (a1 - 1)))) else(none)) else(none)))) else(some 0))
theorem r03_Get.calls (k:Nat) (A0:Option Addr) (c0:Nat) (l0:List Int) (a1:Int) (r:Int) (w:World) (hr0:Kd.C (Kd.int .i64) w A0 l0.length l0) (hc0:l0.length<=c0) (h:r03_Get.f k l0 a1=some r) :
  Calls Try.prog 58 #[.slice A0 l0.length c0,.int .i64 a1] w λe w'=>e = .returned (.int .i64 r)/\Drawn0 w w':=by
 have HR0:=Aside0.mk hr0
 have HC0:=Aside0.mk hc0
 clear hr0 hc0
 have H:((r03_May.f k l0).bind λt216=>(if t216=true then(if a1<1 then(some 0) else(if a1 > (l0.length:Int) then(some 0) else(if 0<=(wrap64 (a1 - 1)) then(if (wrap64 (a1 - 1))<(l0.length:Int) then(some (rd l0 (wrap64 (a1 - 1)))) else(none)) else(none)))) else(some 0)))=some r:=h
 clear h
 replace H:=oB_ H
 obtain ⟨t216,A30,H⟩:=H
 replace H:(if t216=true then(if a1<1 then(some 0) else(if a1 > (l0.length:Int) then(some 0) else(if 0<=(wrap64 (a1 - 1)) then(if (wrap64 (a1 - 1))<(l0.length:Int) then(some (rd l0 (wrap64 (a1 - 1)))) else(none)) else(none)))) else(some 0))=some r:=H
 have A3:=Aside0.mk A30
 clear A30
 by_cases c4:t216=true
 rotate_left
 ·replace c4:=Bool.eq_false_iff.mpr c4
  subst c4
  have H1:(some 0)=some r:=by rw [if_neg (show ¬ (false=true) by decide)] at H;exact H
  clear H
  have H:=H1
  clear H1
  obtain rfl:=sI_ H
  go_enter Try.func58,Try.ntmps58
  go_wp2_with (first|((with_reducible refine gate_callee (f:=43) rfl ?_);refine goesL_ (some 6) rfl rfl Try.func43 (by kernel_rfl) rfl #[.slice A0 l0.length c0] rfl z10_2 ?_;(with_reducible refine(r03_May.calls k _ _ l0 false _ ?side1 ?side2 A3.out).mono ?_);(case side1=>exact z10_6);(case side2=>exact HC0.out);rintro e w' ⟨rfl,⟨nd,rfl⟩⟩;refine ⟨_,rfl,?_⟩))
  go_ret
  exact ⟨z10_4,z10_3⟩
 subst c4
 have H1:(if a1<1 then(some 0) else(if a1 > (l0.length:Int) then(some 0) else(if 0<=(wrap64 (a1 - 1)) then(if (wrap64 (a1 - 1))<(l0.length:Int) then(some (rd l0 (wrap64 (a1 - 1)))) else(none)) else(none))))=some r:=by rw [if_pos rfl] at H;exact H
 clear H
 have H:=H1
 clear H1
 by_cases c5:a1<1
 ·rw [if_pos c5] at H
  have c5b0:decide (a1<1)=true:=dT_ c5
  clear c5
  obtain rfl:=sI_ H
  go_enter Try.func58,Try.ntmps58
  go_wp2_with (first|((with_reducible refine gate_callee (f:=43) rfl ?_);refine goesL_ (some 6) rfl rfl Try.func43 (by kernel_rfl) rfl #[.slice A0 l0.length c0] rfl z10_2 ?_;(with_reducible refine(r03_May.calls k _ _ l0 true _ ?side1 ?side2 A3.out).mono ?_);(case side1=>exact z10_6);(case side2=>exact HC0.out);rintro e w' ⟨rfl,⟨nd,rfl⟩⟩;refine ⟨_,rfl,?_⟩))
  go_ret
  exact ⟨z10_4,z10_3⟩
 rw [if_neg c5] at H
 have c5b0:decide (a1<1)=false:=dF_ c5
 clear c5
 by_cases c6:a1 > (l0.length:Int)
 ·rw [if_pos c6] at H
  have c6b0:decide ((l0.length:Int)<a1)=true:=dT_ c6
  clear c6
  obtain rfl:=sI_ H
  go_enter Try.func58,Try.ntmps58
  go_wp2_with (first|((with_reducible refine gate_callee (f:=43) rfl ?_);refine goesL_ (some 6) rfl rfl Try.func43 (by kernel_rfl) rfl #[.slice A0 l0.length c0] rfl z10_2 ?_;(with_reducible refine(r03_May.calls k _ _ l0 true _ ?side1 ?side2 A3.out).mono ?_);(case side1=>exact z10_6);(case side2=>exact HC0.out);rintro e w' ⟨rfl,⟨nd,rfl⟩⟩;refine ⟨_,rfl,?_⟩))
  go_ret
  exact ⟨z10_4,z10_3⟩
 rw [if_neg c6] at H
 have c6b0:decide ((l0.length:Int)<a1)=false:=dF_ c6
 clear c6
 obtain ⟨ji7,hji7⟩:∃ j_:Int,(wrap64 (a1 - 1))=j_:=⟨_,rfl⟩
 replace H:(if 0<=(ji7) then(if (ji7)<(l0.length:Int) then(some (rd l0 (ji7))) else(none)) else(none))=some r:=by first|(rw [hji7] at H;exact H)|(simp only [hji7] at H ⊢;exact H)
 (try rw [hji7] at A3)
 have hji7w:(IntKind.i64.wrap (a1 - 1))=ji7:=(i64_w _).trans hji7
 (try rw [hji7] at c5b0)
 (try rw [hji7] at c5b0)
 (try rw [hji7] at c6b0)
 (try rw [hji7] at c6b0)
 by_cases c8:0<=(ji7)
 rotate_left
 ·rw [if_neg c8] at H
  exact absurd H (by simp)
 rw [if_pos c8] at H
 have c8b0:decide (0<=(ji7))=true:=dT_ c8
 clear c8
 by_cases c9:(ji7)<(l0.length:Int)
 rotate_left
 ·rw [if_neg c9] at H
  exact absurd H (by simp)
 rw [if_pos c9] at H
 have c9b0:decide ((ji7)<(l0.length:Int))=true:=dT_ c9
 clear c9
 obtain rfl:=sI_ H
 go_enter Try.func58,Try.ntmps58
 go_wp2_with (first|((with_reducible refine gate_callee (f:=43) rfl ?_);refine goesL_ (some 6) rfl rfl Try.func43 (by kernel_rfl) rfl #[.slice A0 l0.length c0] rfl z10_2 ?_;(with_reducible refine(r03_May.calls k _ _ l0 true _ ?side1 ?side2 A3.out).mono ?_);(case side1=>exact z10_6);(case side2=>exact HC0.out);rintro e w' ⟨rfl,⟨nd,rfl⟩⟩;refine ⟨_,rfl,?_⟩;have p217:0<=((ji7):Int):=oD_ z10_1;have q217:(ji7)<(l0.length:Int):=oD_ z10_1;obtain ⟨ad217,e217,hx217_0⟩:=Kd.at_int HR0.out (ji7) p217 q217;cases e217;replace p217:=eq_true p217;replace q217:=eq_true q217))
 go_ret
 exact ⟨(by first|rfl|(simp;done)|(simp only [<-hji7]<;>(first|rfl|simp))|(simp [*];done)),z10_3⟩
mutual
def r03_Plain.l0:Nat->List Int->List Int->Int->Option (List Int)
 | 0,_,_,_=>none
 | k+1,x0,x3,x4=>if x4<=5 then((r03_Get.f k x0 x4).bind λt221=>(if t221 > 0 then(r03_Plain.l1 k x0 x3 x4) else(r03_Plain.l0 k x0 x3 (wrap64 (x4+1))))) else(some x3)
def r03_Plain.l1:Nat->List Int->List Int->Int->Option (List Int)
 | 0,_,_,_=>none
 | k+1,x0,x3,x4=>if (x3.length:Int)<(wrap64 (x4 - 1)) then(if x3.length<17592186044416 then(r03_Plain.l1 k x0 (x3++[0]) x4) else(none)) else((r03_Get.f k x0 x4).bind λt225=>(if x3.length<17592186044416 then(r03_Plain.l0 k x0 (x3++[t225]) (wrap64 (x4+1))) else(none)))
end
def r03_Plain.f (k:Nat) (l0:List Int):Option (List Int):=r03_Plain.l0 k l0 (([]:List Int)) 1
theorem r03_Plain.calls (k:Nat) (A0:Option Addr) (c0:Nat) (l0:List Int) (r:List Int) (w:World) (hr0:Kd.C (Kd.int .i64) w A0 l0.length l0) (hc0:l0.length<=c0) (h:r03_Plain.f k l0=some r) :
  Calls Try.prog 44 #[.slice A0 l0.length c0] w λe w'=>∃ v0_:Value,e = .returned (v0_)/\Kd.R (Kd.int .i64) 3 w' w.heap.size (λ_=>True) v0_ r/\Below w.heap.size w w':=by
 have HR0:=Aside0.mk hr0
 have HC0:=Aside0.mk hc0
 clear hr0 hc0
 have HB:=U (Below.refl w.heap.size w)
 have H:(r03_Plain.l0 k l0 (([]:List Int)) 1)=some r:=h
 clear h
 obtain ⟨y218,hy218⟩:∃ y_:List Int,y_=(([]:List Int)):=⟨_,rfl⟩
 replace H:(r03_Plain.l0 k l0 y218 1)=some r:=by first|(rw [hy218];with_reducible exact H)|(have H2_:=(Option.bind_some _ _).symm.trans H;rw [hy218];with_reducible exact H2_)|(have H2_:=(Option.bind_some _ _).symm.trans H;with_reducible exact H2_)|with_reducible exact H|(rw [hy218];exact H)|exact H
 have Ny218:=Aside0.mk hy218
 clear hy218
 have H':=Aside0.mk H
 clear H
 go_enter Try.func44,Try.ntmps44
 go_wp2_with (first|((with_reducible refine gate_dst (N:=5) rfl ?_);refine Kd.R_lit (Kd.int .i64) _ 3 ?hg (N:=5) ?hd (xs:=([]:List Int)) (inner:=[]) (ok:=λ_=>True) (okp:=λ_=>True) ?hr ?hp (λ_ hk=>hk) trivial (Below.refl _ _) (Nat.le_refl _) (by simp) ?_;(case hd=>rfl);(case hg=>rfl);(case hr=>exact z10_10);(case hp=>exact(Reps.none _ _));intro v219 w2 ho3 hb hg_ hnew_;clear hg_ hnew_;(first|rw [<-Ny218.out] at ho3|(simp only [Int.reduceToNat] at ho3;rw [<-Ny218.out] at ho3));have HO220:=U (Kd.R_lower ho3 (below_size z10_0));replace HB:=U (below_step z10_0 hb);clear hb ho3))
 go_loopg [3,4] k (λkq v3 v4 w'=>∃ (x3_1:List Int) (x4_1:Int),v4 = .int .i64 x4_1/\Aside0 (r03_Plain.l0 kq l0 x3_1 x4_1=some r)/\Aside0 (kq<=k)/\Aside0 (Kd.R (Kd.int .i64) 3 w' w.heap.size (λ_=>True) v3 x3_1)/\Aside0 (Below w.heap.size w w'))
 case atStart=>exact ⟨(y218),(1),z10_4,H',⟨Nat.le_refl _⟩,⟨(by(with_reducible repeat(first|apply Kd.R_alloc|apply Kd.R_drewN|apply Kd.R_drew));exact HO220.out)⟩,⟨z10_0⟩⟩
 case round =>
 clear H'
 try clear p2
 obtain ⟨x3_1,x4_1,rfl,HA,HK1,HO_3,HB⟩:=hrel
 cases gk with
 | zero=>exact absurd HA.out (by simp [r03_Plain.l0])
 | succ k1 =>
 have H:=HA.out
 clear HA
 simp only [r03_Plain.l0] at H
 by_cases c4:x4_1<=5
 rotate_left
 ·rw [if_neg c4] at H
  have c4b0:decide (x4_1<=5)=false:=dF_ c4
  clear c4
  obtain rfl:=sI_ H
  go_wp2
  go_ret
  exact ⟨_,z10_8,z10_7,z10_0⟩
 rw [if_pos c4] at H
 have c4b0:decide (x4_1<=5)=true:=dT_ c4
 clear c4
 replace H:=oB_ H
 obtain ⟨t221,A50,H⟩:=H
 replace H:(if t221 > 0 then(r03_Plain.l1 k1 l0 x3_1 x4_1) else(r03_Plain.l0 k1 l0 x3_1 (wrap64 (x4_1+1))))=some r:=H
 have A5:=Aside0.mk A50
 clear A50
 by_cases c6:t221 > 0
 rotate_left
 ·rw [if_neg c6] at H
  have c6b0:decide (0<t221)=false:=dF_ c6
  clear c6
  have H':=Aside0.mk H
  clear H
  go_wp2_with (first|((with_reducible refine gate_callee (f:=58) rfl ?_);refine goesL_ (some 12) rfl rfl Try.func58 (by kernel_rfl) rfl #[.slice A0 l0.length c0,.int .i64 x4_1] rfl z10_2 ?_;(with_reducible refine(r03_Get.calls k1 _ _ l0 x4_1 t221 _ ?side1 ?side2 A5.out).mono ?_);(case side1=>exact z10_9);(case side2=>exact HC0.out);rintro e w' ⟨rfl,⟨nd,rfl⟩⟩;refine ⟨_,rfl,?_⟩))
  go_roundg k1
  case measure=>have:=HK1.out;omega
  case rel=>exact ⟨(x3_1),(wrap64 (x4_1+1)),z10_4,H',⟨(by have:=HK1.out;omega)⟩,⟨z10_7⟩,⟨z10_0⟩⟩
 rw [if_pos c6] at H
 have c6b0:decide (0<t221)=true:=dT_ c6
 clear c6
 have H':=Aside0.mk H
 clear H
 go_wp2_with (first|((with_reducible refine gate_callee (f:=58) rfl ?_);refine goesL_ (some 12) rfl rfl Try.func58 (by kernel_rfl) rfl #[.slice A0 l0.length c0,.int .i64 x4_1] rfl z10_2 ?_;(with_reducible refine(r03_Get.calls k1 _ _ l0 x4_1 t221 _ ?side1 ?side2 A5.out).mono ?_);(case side1=>exact z10_9);(case side2=>exact HC0.out);rintro e w' ⟨rfl,⟨nd,rfl⟩⟩;refine ⟨_,rfl,?_⟩))
 go_loopg [3] k1 (λkq v3 w'=>∃ (x3_2:List Int),Aside0 (r03_Plain.l1 kq l0 x3_2 x4_1=some r)/\Aside0 (kq<=k1)/\Aside0 (Kd.R (Kd.int .i64) 3 w' w.heap.size (λ_=>True) v3 x3_2)/\Aside0 (Below w.heap.size w w'))
 case atStart=>exact ⟨(x3_1),H',⟨Nat.le_refl _⟩,⟨z10_7⟩,⟨z10_0⟩⟩
 case round =>
 clear H'
 try clear p2
 try clear c4
 try clear c4b0
 try clear c5
 try clear c6
 try clear c6b0
 try clear p6
 try clear p2
 obtain ⟨x3_2,HA,HK2,HO_3,HB⟩:=hrel
 cases gk with
 | zero=>exact absurd HA.out (by simp [r03_Plain.l1])
 | succ k2 =>
 have H:=HA.out
 clear HA
 simp only [r03_Plain.l1] at H
 by_cases c7:(x3_2.length:Int)<(wrap64 (x4_1 - 1))
 ·rw [if_pos c7] at H
  have c7b0:decide ((x3_2.length:Int)<(wrap64 (x4_1 - 1)))=true:=dT_ c7
  clear c7
  by_cases c8:x3_2.length<17592186044416
  rotate_left
  ·rw [if_neg c8] at H
   exact absurd H (by simp)
  rw [if_pos c8] at H
  have LMc8:=Aside0.mk c8
  clear c8
  obtain ⟨y222,hy222⟩:∃ y_:List Int,y_=(x3_2++[0]):=⟨_,rfl⟩
  replace H:(r03_Plain.l1 k2 l0 y222 x4_1)=some r:=by first|(rw [hy222];with_reducible exact H)|(have H2_:=(Option.bind_some _ _).symm.trans H;rw [hy222];with_reducible exact H2_)|(have H2_:=(Option.bind_some _ _).symm.trans H;with_reducible exact H2_)|with_reducible exact H|(rw [hy222];exact H)|exact H
  have Ny222:=Aside0.mk hy222
  clear hy222
  have H':=Aside0.mk H
  clear H
  obtain ⟨Ao9,co9,eo9⟩:=Kd.R_slice HO_3.out
  subst eo9
  go_wp2_with (first|((with_reducible refine gate_builtin (b:=.append) (xs:=#[.tmp 19,.tmp 20]) rfl ?_);at_builtin;refine Kd.R_append (Kd.int .i64) (w0:=w) w.heap.size rfl (.tmp 19) (.tmp 20) 27 3 (.int .i64 0) 8 rfl Try.underlying27 info3 rfl (by decide) (by omega) (.slice Ao9 x3_2.length co9) x3_2 0 [.int .i64 0] (λ_=>True) (λ_=>False) rfl rfl ?aP (λ_ hk=>hk.elim) ?aF ?aO ?aB ?aS ?aL ?_;(case aP=>exact rfl);(case aB=>exact z10_0);(case aF=>exact(λ_ _=>trivial));(case aO=>exact z10_7);(case aS=>exact(below_size z10_0));(case aL=>have:=LMc8.out;omega);intro v223 w10 ho hb hg hat;rw [<-Ny222.out] at ho;replace HB:=U (hb);have HO224:=U (ho);clear HO_3;clear ho hb hg hat))
  go_roundg k2
  case measure=>have:=HK1.out;have:=HK2.out;omega
  case rel=>exact ⟨(y222),H',⟨(by have:=HK1.out;have:=HK2.out;omega)⟩,⟨(by(with_reducible repeat(first|apply Kd.R_alloc|apply Kd.R_drewN|apply Kd.R_drew));exact HO224.out)⟩,⟨z10_0⟩⟩
 rw [if_neg c7] at H
 have c7b0:decide ((x3_2.length:Int)<(wrap64 (x4_1 - 1)))=false:=dF_ c7
 clear c7
 replace H:=oB_ H
 obtain ⟨t225,A110,H⟩:=H
 replace H:(if x3_2.length<17592186044416 then(r03_Plain.l0 k2 l0 (x3_2++[t225]) (wrap64 (x4_1+1))) else(none))=some r:=H
 have A11:=Aside0.mk A110
 clear A110
 by_cases c12:x3_2.length<17592186044416
 rotate_left
 ·rw [if_neg c12] at H
  exact absurd H (by simp)
 rw [if_pos c12] at H
 have LMc12:=Aside0.mk c12
 clear c12
 obtain ⟨y226,hy226⟩:∃ y_:List Int,y_=(x3_2++[t225]):=⟨_,rfl⟩
 replace H:(r03_Plain.l0 k2 l0 y226 (wrap64 (x4_1+1)))=some r:=by first|(rw [hy226];with_reducible exact H)|(have H2_:=(Option.bind_some _ _).symm.trans H;rw [hy226];with_reducible exact H2_)|(have H2_:=(Option.bind_some _ _).symm.trans H;with_reducible exact H2_)|with_reducible exact H|(rw [hy226];exact H)|exact H
 have Ny226:=Aside0.mk hy226
 clear hy226
 have H':=Aside0.mk H
 clear H
 obtain ⟨Ao13,co13,eo13⟩:=Kd.R_slice HO_3.out
 subst eo13
 go_wp2_with (first|((with_reducible refine gate_callee (f:=58) rfl ?_);refine goesL_ (some 25) rfl rfl Try.func58 (by kernel_rfl) rfl #[.slice A0 l0.length c0,.int .i64 x4_1] rfl z10_2 ?_;(with_reducible refine(r03_Get.calls k2 _ _ l0 x4_1 t225 _ ?side1 ?side2 A11.out).mono ?_);(case side1=>exact z10_9);(case side2=>exact HC0.out);rintro e w' ⟨rfl,⟨nd,rfl⟩⟩;refine ⟨_,rfl,?_⟩)|((with_reducible refine gate_builtin (b:=.append) (xs:=#[.tmp 22,.tmp 26]) rfl ?_);at_builtin;refine Kd.R_append (Kd.int .i64) (w0:=w) w.heap.size rfl (.tmp 22) (.tmp 26) 27 3 (.int .i64 0) 8 rfl Try.underlying27 info3 rfl (by decide) (by omega) (.slice Ao13 x3_2.length co13) x3_2 t225 [.int .i64 t225] (λ_=>True) (λ_=>False) rfl rfl ?aP (λ_ hk=>hk.elim) ?aF ?aO ?aB ?aS ?aL ?_;(case aP=>exact rfl);(case aB=>exact z10_0);(case aF=>exact(λ_ _=>trivial));(case aO=>exact z10_7);(case aS=>exact(below_size z10_0));(case aL=>have:=LMc12.out;omega);intro v227 w14 ho hb hg hat;rw [<-Ny226.out] at ho;replace HB:=U (hb);have HO228:=U (ho);clear HO_3;clear ho hb hg hat))
 go_roundg k2
 case measure=>have:=HK1.out;have:=HK2.out;omega
 case rel=>exact ⟨(y226),(wrap64 (x4_1+1)),z10_4,H',⟨(by have:=HK1.out;have:=HK2.out;omega)⟩,⟨(by(with_reducible repeat(first|apply Kd.R_alloc|apply Kd.R_drewN|apply Kd.R_drew));exact HO228.out)⟩,⟨z10_0⟩⟩
def r03_Same.l0:Nat->List Int->List Int->Int->Option (Bool)
 | 0,_,_,_=>none
 | k+1,x0,x1,x5=>if x5<(x0.length:Int) then(if 0<=x5 then(if x5<(x1.length:Int) then(if (rd x0 x5)=(rd x1 x5) then(r03_Same.l0 k x0 x1 (wrap64 (x5+1))) else(some false)) else(none)) else(none)) else(some true)
def r03_Same.f (k:Nat) (l0:List Int) (l1:List Int):Option (Bool):=if (l0.length:Int)=(l1.length:Int) then(r03_Same.l0 k l0 l1 0) else(some false)
theorem r03_Same.calls (k:Nat) (A0:Option Addr) (c0:Nat) (l0:List Int) (A1:Option Addr) (c1:Nat) (l1:List Int) (r:Bool) (w:World) (hr0:Kd.C (Kd.int .i64) w A0 l0.length l0) (hc0:l0.length<=c0) (hr1:Kd.C (Kd.int .i64) w A1 l1.length l1) (hc1:l1.length<=c1) (h:r03_Same.f k l0 l1=some r) :
  Calls Try.prog 56 #[.slice A0 l0.length c0,.slice A1 l1.length c1] w λe w'=>e = .returned (.bool r)/\Drawn0 w w':=by
 have HR0:=Aside0.mk hr0
 have HC0:=Aside0.mk hc0
 clear hr0 hc0
 have HR1:=Aside0.mk hr1
 have HC1:=Aside0.mk hc1
 clear hr1 hc1
 have H:(if (l0.length:Int)=(l1.length:Int) then(r03_Same.l0 k l0 l1 0) else(some false))=some r:=h
 clear h
 by_cases c3:(l0.length:Int)=(l1.length:Int)
 rotate_left
 ·rw [if_neg c3] at H
  have c3b0:((l0.length:Int) == (l1.length:Int))=false:=beq_eq_false_iff_ne.mpr c3
  have c3b1:((l0.length:Int) != (l1.length:Int))=true:=bne_iff_ne.mpr c3
  have c3b2:(l0.length == l1.length)=false:=by first|simpa using c3|(simp at c3 ⊢;omega)
  obtain rfl:=sI_ H
  go_enter Try.func56,Try.ntmps56
  go_wp2
  repeat(go_quiet (fail);try go_wp2)
  go_ret
  exact ⟨z10_4,z10_3⟩
 rw [if_pos c3] at H
 have c3b0:((l0.length:Int) == (l1.length:Int))=true:=beq_iff_eq.mpr c3
 have c3b1:((l0.length:Int) != (l1.length:Int))=false:=bne_eq_false_iff_eq.mpr c3
 have c3b2:(l0.length == l1.length)=true:=by first|simpa using c3|(simp at c3 ⊢;omega)
 clear c3
 have H':=Aside0.mk H
 clear H
 go_enter Try.func56,Try.ntmps56
 go_wp2
 repeat(go_quiet (fail);try go_wp2)
 go_loopg [5] k (λkq v5 w'=>∃ (x5_1:Int),v5 = .int .i64 x5_1/\Aside0 (r03_Same.l0 kq l0 l1 x5_1=some r)/\Aside0 (kq<=k)/\Drawn0 w w')
 case atStart=>exact ⟨(0),z10_4,H',⟨Nat.le_refl _⟩,z10_3⟩
 case round =>
 clear H'
 try clear c1
 try clear p2
 try clear c3
 try clear c3b0
 try clear c3b1
 try clear c3b2
 obtain ⟨x5_1,rfl,HA,HK1,⟨m1,rfl⟩⟩:=hrel
 cases gk with
 | zero=>exact absurd HA.out (by simp [r03_Same.l0])
 | succ k1 =>
 have H:=HA.out
 clear HA
 simp only [r03_Same.l0] at H
 by_cases c4:x5_1<(l0.length:Int)
 rotate_left
 ·rw [if_neg c4] at H
  have c4b0:decide (x5_1<(l0.length:Int))=false:=dF_ c4
  clear c4
  obtain rfl:=sI_ H
  go_wp2
  repeat(go_quiet (fail);try go_wp2)
  go_ret
  exact ⟨z10_4,z10_3⟩
 rw [if_pos c4] at H
 have c4b0:decide (x5_1<(l0.length:Int))=true:=dT_ c4
 clear c4
 by_cases c5:0<=x5_1
 rotate_left
 ·rw [if_neg c5] at H
  exact absurd H (by simp)
 rw [if_pos c5] at H
 have c5b0:decide (0<=x5_1)=true:=dT_ c5
 clear c5
 by_cases c6:x5_1<(l1.length:Int)
 rotate_left
 ·rw [if_neg c6] at H
  exact absurd H (by simp)
 rw [if_pos c6] at H
 have c6b0:decide (x5_1<(l1.length:Int))=true:=dT_ c6
 clear c6
 by_cases c7:(rd l0 x5_1)=(rd l1 x5_1)
 rotate_left
 ·rw [if_neg c7] at H
  have c7b0:((rd l0 x5_1) == (rd l1 x5_1))=false:=beq_eq_false_iff_ne.mpr c7
  have c7b1:((rd l0 x5_1) != (rd l1 x5_1))=true:=bne_iff_ne.mpr c7
  obtain rfl:=sI_ H
  have p229:0<=(x5_1:Int):=oD_ z10_1
  have q229:x5_1<(l0.length:Int):=oD_ z10_1
  obtain ⟨ad229,e229,hx229_0⟩:=Kd.at_int HR0.out x5_1 p229 q229
  cases e229
  replace p229:=eq_true p229
  replace q229:=eq_true q229
  have p230:0<=(x5_1:Int):=oD_ z10_1
  have q230:x5_1<(l1.length:Int):=oD_ z10_1
  obtain ⟨ad230,e230,hx230_0⟩:=Kd.at_int HR1.out x5_1 p230 q230
  cases e230
  replace p230:=eq_true p230
  replace q230:=eq_true q230
  go_wp2
  repeat(go_quiet (fail);try go_wp2)
  go_ret
  exact ⟨z10_4,z10_3⟩
 rw [if_pos c7] at H
 have c7b0:((rd l0 x5_1) == (rd l1 x5_1))=true:=beq_iff_eq.mpr c7
 have c7b1:((rd l0 x5_1) != (rd l1 x5_1))=false:=bne_eq_false_iff_eq.mpr c7
 clear c7
 have H':=Aside0.mk H
 clear H
 have p229:0<=(x5_1:Int):=oD_ z10_1
 have q229:x5_1<(l0.length:Int):=oD_ z10_1
 obtain ⟨ad229,e229,hx229_0⟩:=Kd.at_int HR0.out x5_1 p229 q229
 cases e229
 replace p229:=eq_true p229
 replace q229:=eq_true q229
 have p230:0<=(x5_1:Int):=oD_ z10_1
 have q230:x5_1<(l1.length:Int):=oD_ z10_1
 obtain ⟨ad230,e230,hx230_0⟩:=Kd.at_int HR1.out x5_1 p230 q230
 cases e230
 replace p230:=eq_true p230
 replace q230:=eq_true q230
 go_wp2
 repeat(go_quiet (fail);try go_wp2)
 go_roundg k1
 case measure=>have:=HK1.out;omega
 case rel=>exact ⟨(wrap64 (x5_1+1)),z10_4,H',⟨(by have:=HK1.out;omega)⟩,z10_3⟩
def r04_May.f (a0_0:Int) (a0_1:Int):Option (Bool):=if a0_0>=1 then(if a0_0<=5 then(if a0_1>=1 then(some (decide (a0_1<=1048576))) else(some false)) else(some false)) else(some false)
theorem r04_May.calls (a0_0:Int) (a0_1:Int) (r:Bool) (w:World) (h:r04_May.f a0_0 a0_1=some r) :
  Calls Try.prog 57 #[.agg #[.int .i64 a0_0,.int .i64 a0_1]] w λe w'=>e = .returned (.bool r)/\Below w.heap.size w w':=by
 have hu25:=Try.underlying25
 have HB:=U (Below.refl w.heap.size w)
 have H:(if a0_0>=1 then(if a0_0<=5 then(if a0_1>=1 then(some (decide (a0_1<=1048576))) else(some false)) else(some false)) else(some false))=some r:=h
 clear h
 by_cases c2:a0_0>=1
 rotate_left
 ·rw [if_neg c2] at H
  have c2b0:decide (1<=a0_0)=false:=dF_ c2
  clear c2
  obtain rfl:=sI_ H
  go_enter Try.func57,Try.ntmps57
  go_wp2_with (first|((with_reducible refine gate_dst (N:=1) rfl ?_);refine box_event ?hg (N:=1) ?hd (cs:=#[.int .i64 a0_0,.int .i64 a0_1]) (t:=25) ?hr ?_;(case hd=>rfl);(case hg=>rfl);(case hr=>exact z10_10);intro gb231 hg w11 hbox hb;have BK231:=U (hbox);have GW231:=U ((by rw [hg];exact(below_size z10_0):w.heap.size<=gb231));have GE231:=U ((by rw [hg];exact(below_size z10_0):w.heap.size<=gb231));replace HB:=U (below_step z10_0 hb);clear hb hbox hg;obtain ⟨hcz12_0,hcz12_1,hfz12_0,hfz12_1⟩:=cz2_ BK231.out))
  go_ret
  exact ⟨z10_8,z10_5⟩
 rw [if_pos c2] at H
 have c2b0:decide (1<=a0_0)=true:=dT_ c2
 clear c2
 by_cases c3:a0_0<=5
 rotate_left
 ·rw [if_neg c3] at H
  have c3b0:decide (a0_0<=5)=false:=dF_ c3
  clear c3
  obtain rfl:=sI_ H
  go_enter Try.func57,Try.ntmps57
  go_wp2_with (first|((with_reducible refine gate_dst (N:=1) rfl ?_);refine box_event ?hg (N:=1) ?hd (cs:=#[.int .i64 a0_0,.int .i64 a0_1]) (t:=25) ?hr ?_;(case hd=>rfl);(case hg=>rfl);(case hr=>exact z10_10);intro gb231 hg w9 hbox hb;have BK231:=U (hbox);have GW231:=U ((by rw [hg];exact(below_size z10_0):w.heap.size<=gb231));have GE231:=U ((by rw [hg];exact(below_size z10_0):w.heap.size<=gb231));replace HB:=U (below_step z10_0 hb);clear hb hbox hg;obtain ⟨hcz10_0,hcz10_1,hfz10_0,hfz10_1⟩:=cz2_ BK231.out))
  go_ret
  exact ⟨z10_8,z10_5⟩
 rw [if_pos c3] at H
 have c3b0:decide (a0_0<=5)=true:=dT_ c3
 clear c3
 by_cases c4:a0_1>=1
 ·rw [if_pos c4] at H
  have c4b0:decide (1<=a0_1)=true:=dT_ c4
  clear c4
  obtain rfl:=sI_ H
  go_enter Try.func57,Try.ntmps57
  go_wp2_with (first|((with_reducible refine gate_dst (N:=1) rfl ?_);refine box_event ?hg (N:=1) ?hd (cs:=#[.int .i64 a0_0,.int .i64 a0_1]) (t:=25) ?hr ?_;(case hd=>rfl);(case hg=>rfl);(case hr=>exact z10_10);intro gb231 hg w5 hbox hb;have BK231:=U (hbox);have GW231:=U ((by rw [hg];exact(below_size z10_0):w.heap.size<=gb231));have GE231:=U ((by rw [hg];exact(below_size z10_0):w.heap.size<=gb231));replace HB:=U (below_step z10_0 hb);clear hb hbox hg;obtain ⟨hcz6_0,hcz6_1,hfz6_0,hfz6_1⟩:=cz2_ BK231.out))
  go_ret
  exact ⟨z10_8,z10_5⟩
 rw [if_neg c4] at H
 have c4b0:decide (1<=a0_1)=false:=dF_ c4
 clear c4
 obtain rfl:=sI_ H
 go_enter Try.func57,Try.ntmps57
 go_wp2_with (first|((with_reducible refine gate_dst (N:=1) rfl ?_);refine box_event ?hg (N:=1) ?hd (cs:=#[.int .i64 a0_0,.int .i64 a0_1]) (t:=25) ?hr ?_;(case hd=>rfl);(case hg=>rfl);(case hr=>exact z10_10);intro gb231 hg w7 hbox hb;have BK231:=U (hbox);have GW231:=U ((by rw [hg];exact(below_size z10_0):w.heap.size<=gb231));have GE231:=U ((by rw [hg];exact(below_size z10_0):w.heap.size<=gb231));replace HB:=U (below_step z10_0 hb);clear hb hbox hg;obtain ⟨hcz8_0,hcz8_1,hfz8_0,hfz8_1⟩:=cz2_ BK231.out))
 go_ret
 exact ⟨z10_8,z10_5⟩
end Go.Proofs.Ytgocnchjpecafaa.PEv
