/- a part -/
import Derived.Test.YtfhamdobagjakaaPJox5
namespace Go.Proofs.Ytfhamdobagjakaa.PJo
open Go.RowKit Go.Proofs.YtfhamdobagjakaaW.PrintWords Go.Proofs.YtfhamdobagjakaaW.PrintLast Go.Proofs.YtfhamdobagjakaaW.PrintMore
attribute [local go_sem] max2_int min2_int max_two min_two max_three min_three max_four min_four
set_option linter.unusedVariables false
set_option linter.unusedSimpArgs false
set_option maxHeartbeats 8000000
set_option maxRecDepth 100000
theorem z6_0 {P:Prop} (h:P:=by repeat(first|(with_reducible first|exact HB.out|apply below_alloc|apply pw_below_drewN|apply below_drew1)|exact HB.out)):P:=h
theorem z6_2 {P:Prop} (h:P:=by(with_reducible repeat(first|apply Kd.R_alloc|apply Kd.R_drewN|apply Kd.R_drew));exact HO_3.out):P:=h
theorem z6_3 {P:Prop} (h:P:=by repeat(first|exact HR220_1.out|(with_reducible refine Kd.C_alloc ?_ _)|(with_reducible refine Kd.C_drewN ?_ _)|(with_reducible refine Kd.C_drew ?_))):P:=h
theorem z6_4 {P:Prop} (h:P:=by repeat(first|exact HR221_1.out|(with_reducible refine Kd.C_alloc ?_ _)|(with_reducible refine Kd.C_drewN ?_ _)|(with_reducible refine Kd.C_drew ?_))):P:=h
theorem z6_6 {P:Prop} (h:P:=by(try simp only [List.map_toArray,List.map_cons,List.map_nil]);first|done|rfl|(simp only [List.length_drop,List.length_take];rfl)):P:=h
theorem z6_7 {P:Prop} (h:P:=by(with_reducible repeat(first|apply Kd.R_alloc|apply Kd.R_drewN|apply Kd.R_drew));exact HO261.out):P:=h
theorem z6_9 {P:Prop} (h:P:=by first|rfl|(simp [errW_none,errW_some]<;>rfl)|(simp [*,errW_none,errW_some]<;>rfl)):P:=h
theorem z6_10 {P:Prop} (h:P:=by(with_reducible repeat(first|apply Kd.R_alloc|apply Kd.R_drewN|apply Kd.R_drew));exact HO264.out):P:=h
theorem z6_11 {P:Prop} (h:P:=by first|(go_simp;done)|(go_simp;rfl)):P:=h
theorem z6_12 {P:Prop} (h:P:=by repeat(first|exact(Kd.R_reads' HO_3.out).2.2|(with_reducible refine Kd.C_alloc ?_ _)|(with_reducible refine Kd.C_drewN ?_ _)|(with_reducible refine Kd.C_drew ?_))):P:=h
def r07_Same.l0:Nat->List (S92)->List (S92)->Int->Option (Bool)
 | 0,_,_,_=>none
 | k+1,x0,x1,x5=>if x5<(x0.length:Int) then(if 0<=x5 then(if x5<(x1.length:Int) then(if ((rd_T92 x0 x5).f0)=((rd_T92 x1 x5).f0) then((r02_Bytes.f k ((rd_T92 x0 x5).f1) ((rd_T92 x1 x5).f1)).bind λt222=>(if t222=true then(r07_Same.l0 k x0 x1 (wrap64 (x5+1))) else(some false))) else(some false)) else(none)) else(none)) else(some true)
def r07_Same.f (k:Nat) (l0:List (S92)) (l1:List (S92)):Option (Bool):=if (l0.length:Int)=(l1.length:Int) then(r07_Same.l0 k l0 l1 0) else(some false)
theorem r07_Same.calls (k:Nat) (A0:Option Addr) (c0:Nat) (l0:List (S92)) (A1:Option Addr) (c1:Nat) (l1:List (S92)) (r:Bool) (w:World) (hr0:Kd.C k92 w A0 l0.length l0) (hc0:l0.length<=c0) (hr1:Kd.C k92 w A1 l1.length l1) (hc1:l1.length<=c1) (h:r07_Same.f k l0 l1=some r) :
  Calls Try.prog 19 #[.slice A0 l0.length c0,.slice A1 l1.length c1] w λe w'=>e = .returned (.bool r)/\Drawn0 w w':=by
 have HR0:=Aside0.mk hr0
 have HC0:=Aside0.mk hc0
 clear hr0 hc0
 have HR1:=Aside0.mk hr1
 have HC1:=Aside0.mk hc1
 clear hr1 hc1
 have H:(if (l0.length:Int)=(l1.length:Int) then(r07_Same.l0 k l0 l1 0) else(some false))=some r:=h
 clear h
 by_cases c3:(l0.length:Int)=(l1.length:Int)
 rotate_left
 ·rw [if_neg c3] at H
  have c3b0:((l0.length:Int) == (l1.length:Int))=false:=beq_eq_false_iff_ne.mpr c3
  have c3b1:((l0.length:Int) != (l1.length:Int))=true:=bne_iff_ne.mpr c3
  have c3b2:(l0.length == l1.length)=false:=by first|simpa using c3|(simp at c3 ⊢;omega)
  obtain rfl:=sI_ H
  go_enter Try.func19,Try.ntmps19
  go_wp2
  repeat(go_quiet (fail);try go_wp2)
  go_ret
  exact ⟨z5_2,z5_1⟩
 rw [if_pos c3] at H
 have c3b0:((l0.length:Int) == (l1.length:Int))=true:=beq_iff_eq.mpr c3
 have c3b1:((l0.length:Int) != (l1.length:Int))=false:=bne_eq_false_iff_eq.mpr c3
 have c3b2:(l0.length == l1.length)=true:=by first|simpa using c3|(simp at c3 ⊢;omega)
 clear c3
 have H':=Aside0.mk H
 clear H
 go_enter Try.func19,Try.ntmps19
 go_wp2
 repeat(go_quiet (fail);try go_wp2)
 go_loopg [5] k (λkq v5 w'=>∃ (x5_1:Int),v5 = .int .i64 x5_1/\Aside0 (r07_Same.l0 kq l0 l1 x5_1=some r)/\Aside0 (kq<=k)/\Drawn0 w w')
 case atStart=>exact ⟨(0),z5_2,H',⟨Nat.le_refl _⟩,z5_1⟩
 case round =>
 clear H'
 try clear c1
 try clear p2
 try clear c3
 try clear c3b0
 try clear c3b1
 try clear c3b2
 obtain ⟨x5_1,rfl,HA,HK1,⟨m1,rfl⟩⟩:=hrel
 cases gk with
 | zero=>exact absurd HA.out (by simp [r07_Same.l0])
 | succ k1 =>
 have H:=HA.out
 clear HA
 simp only [r07_Same.l0] at H
 by_cases c4:x5_1<(l0.length:Int)
 rotate_left
 ·rw [if_neg c4] at H
  have c4b0:decide (x5_1<(l0.length:Int))=false:=dF_ c4
  clear c4
  obtain rfl:=sI_ H
  go_wp2
  repeat(go_quiet (fail);try go_wp2)
  go_ret
  exact ⟨z5_2,z5_1⟩
 rw [if_pos c4] at H
 have c4b0:decide (x5_1<(l0.length:Int))=true:=dT_ c4
 clear c4
 by_cases c5:0<=x5_1
 rotate_left
 ·rw [if_neg c5] at H
  exact absurd H (by simp)
 rw [if_pos c5] at H
 have c5b0:decide (0<=x5_1)=true:=dT_ c5
 clear c5
 by_cases c6:x5_1<(l1.length:Int)
 rotate_left
 ·rw [if_neg c6] at H
  exact absurd H (by simp)
 rw [if_pos c6] at H
 have c6b0:decide (x5_1<(l1.length:Int))=true:=dT_ c6
 clear c6
 by_cases c7:((rd_T92 l0 x5_1).f0)=((rd_T92 l1 x5_1).f0)
 rotate_left
 ·rw [if_neg c7] at H
  have c7b0:(((rd_T92 l0 x5_1).f0) == ((rd_T92 l1 x5_1).f0))=false:=beq_eq_false_iff_ne.mpr c7
  have c7b1:(((rd_T92 l0 x5_1).f0) != ((rd_T92 l1 x5_1).f0))=true:=bne_iff_ne.mpr c7
  obtain rfl:=sI_ H
  have p218:0<=(x5_1:Int):=oD_ z5_0
  have q218:x5_1<(l0.length:Int):=oD_ z5_0
  obtain ⟨ad218,A218_1,c218_1,e218,hx218_0,hx218_1,hl218_1,hi218_1⟩:=at_T92 HR0.out x5_1 p218 q218
  cases e218
  have HR218_1:=Aside0.mk hi218_1
  have HC218_1:=Aside0.mk hl218_1
  clear hi218_1 hl218_1
  replace p218:=eq_true p218
  replace q218:=eq_true q218
  have p219:0<=(x5_1:Int):=oD_ z5_0
  have q219:x5_1<(l1.length:Int):=oD_ z5_0
  obtain ⟨ad219,A219_1,c219_1,e219,hx219_0,hx219_1,hl219_1,hi219_1⟩:=at_T92 HR1.out x5_1 p219 q219
  cases e219
  have HR219_1:=Aside0.mk hi219_1
  have HC219_1:=Aside0.mk hl219_1
  clear hi219_1 hl219_1
  replace p219:=eq_true p219
  replace q219:=eq_true q219
  go_wp2
  repeat(go_quiet (fail);try go_wp2)
  go_ret
  exact ⟨z5_2,z5_1⟩
 rw [if_pos c7] at H
 have c7b0:(((rd_T92 l0 x5_1).f0) == ((rd_T92 l1 x5_1).f0))=true:=beq_iff_eq.mpr c7
 have c7b1:(((rd_T92 l0 x5_1).f0) != ((rd_T92 l1 x5_1).f0))=false:=bne_eq_false_iff_eq.mpr c7
 clear c7
 replace H:=oB_ H
 obtain ⟨t222,A80,H⟩:=H
 replace H:(if t222=true then(r07_Same.l0 k1 l0 l1 (wrap64 (x5_1+1))) else(some false))=some r:=H
 have A8:=Aside0.mk A80
 clear A80
 by_cases c9:t222=true
 rotate_left
 ·replace c9:=Bool.eq_false_iff.mpr c9
  subst c9
  have H1:(some false)=some r:=by rw [if_neg (show ¬ (false=true) by decide)] at H;exact H
  clear H
  have H:=H1
  clear H1
  obtain rfl:=sI_ H
  have p218:0<=(x5_1:Int):=oD_ z5_0
  have q218:x5_1<(l0.length:Int):=oD_ z5_0
  obtain ⟨ad218,A218_1,c218_1,e218,hx218_0,hx218_1,hl218_1,hi218_1⟩:=at_T92 HR0.out x5_1 p218 q218
  cases e218
  have HR218_1:=Aside0.mk hi218_1
  have HC218_1:=Aside0.mk hl218_1
  clear hi218_1 hl218_1
  replace p218:=eq_true p218
  replace q218:=eq_true q218
  have p219:0<=(x5_1:Int):=oD_ z5_0
  have q219:x5_1<(l1.length:Int):=oD_ z5_0
  obtain ⟨ad219,A219_1,c219_1,e219,hx219_0,hx219_1,hl219_1,hi219_1⟩:=at_T92 HR1.out x5_1 p219 q219
  cases e219
  have HR219_1:=Aside0.mk hi219_1
  have HC219_1:=Aside0.mk hl219_1
  clear hi219_1 hl219_1
  replace p219:=eq_true p219
  replace q219:=eq_true q219
  have p220:0<=(x5_1:Int):=oD_ z5_0
  have q220:x5_1<(l0.length:Int):=oD_ z5_0
  obtain ⟨ad220,A220_1,c220_1,e220,hx220_0,hx220_1,hl220_1,hi220_1⟩:=at_T92 HR0.out x5_1 p220 q220
  obtain rfl:ad218=ad220:=(by injection e220)
  have HR220_1:=Aside0.mk hi220_1
  have HC220_1:=Aside0.mk hl220_1
  clear hi220_1 hl220_1
  replace p220:=eq_true p220
  replace q220:=eq_true q220
  have ea_:=sI_ (hx218_1.symm.trans hx220_1)
  injection ea_ with ea_ en_ ec_
  subst ea_
  subst ec_
  clear en_
  have p221:0<=(x5_1:Int):=oD_ z5_0
  have q221:x5_1<(l1.length:Int):=oD_ z5_0
  obtain ⟨ad221,A221_1,c221_1,e221,hx221_0,hx221_1,hl221_1,hi221_1⟩:=at_T92 HR1.out x5_1 p221 q221
  obtain rfl:ad219=ad221:=(by injection e221)
  have HR221_1:=Aside0.mk hi221_1
  have HC221_1:=Aside0.mk hl221_1
  clear hi221_1 hl221_1
  replace p221:=eq_true p221
  replace q221:=eq_true q221
  have ea_:=sI_ (hx219_1.symm.trans hx221_1)
  injection ea_ with ea_ en_ ec_
  subst ea_
  subst ec_
  clear en_
  go_wp2_with (first|(go_at_call 51;(with_reducible refine(r02_Bytes.calls k1 _ _ ((rd_T92 l0 x5_1).f1) _ _ ((rd_T92 l1 x5_1).f1) false _ ?side1 ?side2 ?side3 ?side4 A8.out).mono ?_);(case side1=>exact z6_3);(case side2=>exact HC220_1.out);(case side3=>exact z6_4);(case side4=>exact HC221_1.out);rintro e w' ⟨rfl,⟨nd,rfl⟩⟩;(try first|exact ⟨rfl,_,World.drewN_drewN _ _ _⟩|exact ⟨rfl,_,Eq.trans (World.drewN_drewN _ _ _) (congrArg (World.drewN _) (Nat.add_assoc _ _ _))⟩)))
  repeat(go_quiet (first|(go_at_call 51;(with_reducible refine(r02_Bytes.calls k1 _ _ ((rd_T92 l0 x5_1).f1) _ _ ((rd_T92 l1 x5_1).f1) false _ ?side1 ?side2 ?side3 ?side4 A8.out).mono ?_);(case side1=>exact z6_3);(case side2=>exact HC220_1.out);(case side3=>exact z6_4);(case side4=>exact HC221_1.out);rintro e w' ⟨rfl,⟨nd,rfl⟩⟩;(try first|exact ⟨rfl,_,World.drewN_drewN _ _ _⟩|exact ⟨rfl,_,Eq.trans (World.drewN_drewN _ _ _) (congrArg (World.drewN _) (Nat.add_assoc _ _ _))⟩)));try go_wp2_with (first|(go_at_call 51;(with_reducible refine(r02_Bytes.calls k1 _ _ ((rd_T92 l0 x5_1).f1) _ _ ((rd_T92 l1 x5_1).f1) false _ ?side1 ?side2 ?side3 ?side4 A8.out).mono ?_);(case side1=>exact z6_3);(case side2=>exact HC220_1.out);(case side3=>exact z6_4);(case side4=>exact HC221_1.out);rintro e w' ⟨rfl,⟨nd,rfl⟩⟩;(try first|exact ⟨rfl,_,World.drewN_drewN _ _ _⟩|exact ⟨rfl,_,Eq.trans (World.drewN_drewN _ _ _) (congrArg (World.drewN _) (Nat.add_assoc _ _ _))⟩))))
  go_ret
  exact ⟨z5_2,z5_1⟩
 subst c9
 have H1:(r07_Same.l0 k1 l0 l1 (wrap64 (x5_1+1)))=some r:=by rw [if_pos rfl] at H;exact H
 clear H
 have H:=H1
 clear H1
 have H':=Aside0.mk H
 clear H
 have p218:0<=(x5_1:Int):=oD_ z5_0
 have q218:x5_1<(l0.length:Int):=oD_ z5_0
 obtain ⟨ad218,A218_1,c218_1,e218,hx218_0,hx218_1,hl218_1,hi218_1⟩:=at_T92 HR0.out x5_1 p218 q218
 cases e218
 have HR218_1:=Aside0.mk hi218_1
 have HC218_1:=Aside0.mk hl218_1
 clear hi218_1 hl218_1
 replace p218:=eq_true p218
 replace q218:=eq_true q218
 have p219:0<=(x5_1:Int):=oD_ z5_0
 have q219:x5_1<(l1.length:Int):=oD_ z5_0
 obtain ⟨ad219,A219_1,c219_1,e219,hx219_0,hx219_1,hl219_1,hi219_1⟩:=at_T92 HR1.out x5_1 p219 q219
 cases e219
 have HR219_1:=Aside0.mk hi219_1
 have HC219_1:=Aside0.mk hl219_1
 clear hi219_1 hl219_1
 replace p219:=eq_true p219
 replace q219:=eq_true q219
 have p220:0<=(x5_1:Int):=oD_ z5_0
 have q220:x5_1<(l0.length:Int):=oD_ z5_0
 obtain ⟨ad220,A220_1,c220_1,e220,hx220_0,hx220_1,hl220_1,hi220_1⟩:=at_T92 HR0.out x5_1 p220 q220
 obtain rfl:ad218=ad220:=(by injection e220)
 have HR220_1:=Aside0.mk hi220_1
 have HC220_1:=Aside0.mk hl220_1
 clear hi220_1 hl220_1
 replace p220:=eq_true p220
 replace q220:=eq_true q220
 have ea_:=sI_ (hx218_1.symm.trans hx220_1)
 injection ea_ with ea_ en_ ec_
 subst ea_
 subst ec_
 clear en_
 have p221:0<=(x5_1:Int):=oD_ z5_0
 have q221:x5_1<(l1.length:Int):=oD_ z5_0
 obtain ⟨ad221,A221_1,c221_1,e221,hx221_0,hx221_1,hl221_1,hi221_1⟩:=at_T92 HR1.out x5_1 p221 q221
 obtain rfl:ad219=ad221:=(by injection e221)
 have HR221_1:=Aside0.mk hi221_1
 have HC221_1:=Aside0.mk hl221_1
 clear hi221_1 hl221_1
 replace p221:=eq_true p221
 replace q221:=eq_true q221
 have ea_:=sI_ (hx219_1.symm.trans hx221_1)
 injection ea_ with ea_ en_ ec_
 subst ea_
 subst ec_
 clear en_
 go_wp2_with (first|(go_at_call 51;(with_reducible refine(r02_Bytes.calls k1 _ _ ((rd_T92 l0 x5_1).f1) _ _ ((rd_T92 l1 x5_1).f1) true _ ?side1 ?side2 ?side3 ?side4 A8.out).mono ?_);(case side1=>exact z6_3);(case side2=>exact HC220_1.out);(case side3=>exact z6_4);(case side4=>exact HC221_1.out);rintro e w' ⟨rfl,⟨nd,rfl⟩⟩;(try first|exact ⟨rfl,_,World.drewN_drewN _ _ _⟩|exact ⟨rfl,_,Eq.trans (World.drewN_drewN _ _ _) (congrArg (World.drewN _) (Nat.add_assoc _ _ _))⟩)))
 repeat(go_quiet (first|(go_at_call 51;(with_reducible refine(r02_Bytes.calls k1 _ _ ((rd_T92 l0 x5_1).f1) _ _ ((rd_T92 l1 x5_1).f1) true _ ?side1 ?side2 ?side3 ?side4 A8.out).mono ?_);(case side1=>exact z6_3);(case side2=>exact HC220_1.out);(case side3=>exact z6_4);(case side4=>exact HC221_1.out);rintro e w' ⟨rfl,⟨nd,rfl⟩⟩;(try first|exact ⟨rfl,_,World.drewN_drewN _ _ _⟩|exact ⟨rfl,_,Eq.trans (World.drewN_drewN _ _ _) (congrArg (World.drewN _) (Nat.add_assoc _ _ _))⟩)));try go_wp2_with (first|(go_at_call 51;(with_reducible refine(r02_Bytes.calls k1 _ _ ((rd_T92 l0 x5_1).f1) _ _ ((rd_T92 l1 x5_1).f1) true _ ?side1 ?side2 ?side3 ?side4 A8.out).mono ?_);(case side1=>exact z6_3);(case side2=>exact HC220_1.out);(case side3=>exact z6_4);(case side4=>exact HC221_1.out);rintro e w' ⟨rfl,⟨nd,rfl⟩⟩;(try first|exact ⟨rfl,_,World.drewN_drewN _ _ _⟩|exact ⟨rfl,_,Eq.trans (World.drewN_drewN _ _ _) (congrArg (World.drewN _) (Nat.add_assoc _ _ _))⟩))))
 go_roundg k1
 case measure=>have:=HK1.out;omega
 case rel=>exact ⟨(wrap64 (x5_1+1)),z5_2,H',⟨(by have:=HK1.out;omega)⟩,z5_1⟩
def r02_Num.l0:Nat->Int->List Int->Option (List Int)
 | 0,_,_=>none
 | k+1,x0,x3=>if x0 > 0 then((some (([(Int.tmod x0 256) % 256]:List Int):List Int)).bind λy226=>(if y226.length+x3.length<140737488355328 then(r02_Num.l0 k (IntKind.u64.wrap (Int.tdiv x0 256)) (y226++x3)) else(none))) else((some (([((x3.length:Int)) % 256]:List Int):List Int)).bind λy232=>(if y232.length+x3.length<140737488355328 then(some (y232++x3)) else(none)))
def r02_Num.f (k:Nat) (a0:Int):Option (List Int):=r02_Num.l0 k a0 (([]:List Int))
theorem r02_Num.calls (k:Nat) (a0:Int) (r:List Int) (w:World) (h:r02_Num.f k a0=some r) :
  Calls Try.prog 47 #[.int .u64 a0] w λe w'=>∃ v0_:Value,e = .returned (v0_)/\Kd.R (Kd.int .u8) 5 w' w.heap.size (λ_=>True) v0_ r/\Below w.heap.size w w':=by
 have HB:=U (Below.refl w.heap.size w)
 have H:(r02_Num.l0 k a0 (([]:List Int)))=some r:=h
 clear h
 obtain ⟨y223,hy223⟩:∃ y_:List Int,y_=(([]:List Int)):=⟨_,rfl⟩
 replace H:(r02_Num.l0 k a0 y223)=some r:=by first|(rw [hy223];with_reducible exact H)|(have H2_:=(Option.bind_some _ _).symm.trans H;rw [hy223];with_reducible exact H2_)|(have H2_:=(Option.bind_some _ _).symm.trans H;with_reducible exact H2_)|with_reducible exact H|(rw [hy223];exact H)|exact H
 have Ny223:=Aside0.mk hy223
 clear hy223
 have H':=Aside0.mk H
 clear H
 go_enter Try.func47,Try.ntmps47
 go_wp2_with (first|((with_reducible refine gate_dst (N:=4) rfl ?_);refine Kd.R_lit (Kd.int .u8) _ 5 ?hg (N:=4) ?hd (xs:=([]:List Int)) (inner:=[]) (ok:=λ_=>True) (okp:=λ_=>True) ?hr ?hp (λ_ hk=>hk) trivial (Below.refl _ _) (Nat.le_refl _) (by simp) ?_;(case hd=>rfl);(case hg=>rfl);(case hr=>exact z6_11);(case hp=>exact(Reps.none _ _));intro v224 w2 ho3 hb hg_ hnew_;clear hg_ hnew_;(first|rw [<-Ny223.out] at ho3|(simp only [Int.reduceToNat] at ho3;rw [<-Ny223.out] at ho3));have HO225:=U (Kd.R_lower ho3 (below_size z6_0));replace HB:=U (below_step z6_0 hb);clear hb ho3))
 go_loopg [0,3] k (λkq v0 v3 w'=>∃ (x0_1:Int) (x3_1:List Int),v0 = .int .u64 x0_1/\Aside0 (r02_Num.l0 kq x0_1 x3_1=some r)/\Aside0 (kq<=k)/\Aside0 (Kd.R (Kd.int .u8) 5 w' w.heap.size (λ_=>True) v3 x3_1)/\Aside0 (Below w.heap.size w w'))
 case atStart=>exact ⟨(a0),(y223),z5_2,H',⟨Nat.le_refl _⟩,⟨(by(with_reducible repeat(first|apply Kd.R_alloc|apply Kd.R_drewN|apply Kd.R_drew));exact HO225.out)⟩,⟨z6_0⟩⟩
 case round =>
 clear H'
 try clear p2
 obtain ⟨x0_1,x3_1,rfl,HA,HK1,HO_3,HB⟩:=hrel
 cases gk with
 | zero=>exact absurd HA.out (by simp [r02_Num.l0])
 | succ k1 =>
 have H:=HA.out
 clear HA
 simp only [r02_Num.l0] at H
 by_cases c4:x0_1 > 0
 ·rw [if_pos c4] at H
  have c4b0:decide (0<x0_1)=true:=dT_ c4
  clear c4
  obtain ⟨y226,hy226⟩:∃ y_:List Int,y_=(([(Int.tmod x0_1 256) % 256]:List Int)):=⟨_,rfl⟩
  replace H:(if y226.length+x3_1.length<140737488355328 then(r02_Num.l0 k1 (IntKind.u64.wrap (Int.tdiv x0_1 256)) (y226++x3_1)) else(none))=some r:=by first|(rw [hy226];with_reducible exact H)|(have H2_:=(Option.bind_some _ _).symm.trans H;rw [hy226];with_reducible exact H2_)|(have H2_:=(Option.bind_some _ _).symm.trans H;with_reducible exact H2_)|with_reducible exact H|(rw [hy226];exact H)|exact H
  have Ny226:=Aside0.mk hy226
  clear hy226
  by_cases c5:y226.length+x3_1.length<140737488355328
  rotate_left
  ·rw [if_neg c5] at H
   exact absurd H (by simp)
  rw [if_pos c5] at H
  have LMc5:=Aside0.mk c5
  clear c5
  obtain ⟨y229,hy229⟩:∃ y_:List Int,y_=(y226++x3_1):=⟨_,rfl⟩
  replace H:(r02_Num.l0 k1 (IntKind.u64.wrap (Int.tdiv x0_1 256)) y229)=some r:=by first|(rw [hy229];with_reducible exact H)|(have H2_:=(Option.bind_some _ _).symm.trans H;rw [hy229];with_reducible exact H2_)|(have H2_:=(Option.bind_some _ _).symm.trans H;with_reducible exact H2_)|with_reducible exact H|(rw [hy229];exact H)|exact H
  have Ny229:=Aside0.mk hy229
  clear hy229
  have H':=Aside0.mk H
  clear H
  go_wp2_with (first|((with_reducible refine gate_dst (N:=10) rfl ?_);refine Kd.R_lit (Kd.int .u8) _ 5 ?hg (N:=10) ?hd (xs:=([(Int.tmod x0_1 256) % 256]:List Int)) (inner:=[.int .u8 ((Int.tmod x0_1 256) % 256)]) (ok:=λ_=>True) (okp:=λ_=>True) ?hr ?hp (λ_ hk=>hk) trivial (Below.refl _ _) (Nat.le_refl _) (by simp) ?_;(case hd=>rfl);(case hg=>rfl);(case hr=>exact z6_11);(case hp=>exact(Reps.one (show Kd.M (Kd.int .u8) _ _ _ ((Int.tmod x0_1 256) % 256) [.int .u8 ((Int.tmod x0_1 256) % 256)] from rfl) (Reps.none _ _)));intro v227 w6 ho7 hb hg_ hnew_;clear hg_ hnew_;(first|rw [<-Ny226.out] at ho7|(simp only [Int.reduceToNat] at ho7;rw [<-Ny226.out] at ho7));have HO228:=U (Kd.R_lower (Kd.R_new' ho7 (Kd.R_lt z6_2)) (below_size z6_0));replace HO_3:=U (Kd.R_elder' z6_2 (Kd.R_base ho7) hb);replace HB:=U (below_step z6_0 hb);clear hb ho7;obtain ⟨Ao9,co9,eo9⟩:=Kd.R_slice HO_3.out;subst eo9)|((with_reducible refine gate_builtin (b:=.append) (xs:=#[.tmp 10,.tmp 11]) rfl ?_);at_builtin;refine Kd.R_append_rows (Kd.int .u8) (w0:=w) w.heap.size rfl (.tmp 10) (.tmp 11) 38 5 (.int .u8 0) 1 rfl Try.underlying38 info5 rfl (by decide) (by omega) v227 y226 x3_1 _ _ _ (λk_=>some k_≠(.slice Ao9 x3_1.length co9:Value).ownBlock) (λ_=>False) rfl rfl ?aO ?aR (λ_ _ h=>h) (λ_ h=>h.elim) ?aF ?aB ?aS ?aL ?_;(case aR=>exact z6_12);(case aB=>exact z6_0);(case aF=>exact(λk_ hk=>Kd.fresh' (Kd.R_lt z6_2) k_ hk));(case aO=>exact(by(with_reducible repeat(first|apply Kd.R_alloc|apply Kd.R_drewN|apply Kd.R_drew));exact Kd.R_mono HO228.out (λ_ hk=>hk.2)));(case aS=>exact(below_size z6_0));(case aL=>have:=LMc5.out;omega);intro v230 w8 ho hb hg hat;rw [<-Ny229.out] at ho;replace HO_3:=U (Kd.R_after (ok:=(λ_=>True)) z6_2 hg hat);replace HB:=U (hb);have HO231:=U (ho);clear HO228;clear ho hb hg hat))
  go_roundg k1
  case measure=>have:=HK1.out;omega
  case rel=>exact ⟨(IntKind.u64.wrap (Int.tdiv x0_1 256)),(y229),z5_2,H',⟨(by have:=HK1.out;omega)⟩,⟨(by(with_reducible repeat(first|apply Kd.R_alloc|apply Kd.R_drewN|apply Kd.R_drew));exact Kd.R_mono HO231.out (λ_ hk=>trivial))⟩,⟨z6_0⟩⟩
 rw [if_neg c4] at H
 have c4b0:decide (0<x0_1)=false:=dF_ c4
 clear c4
 obtain ⟨y232,hy232⟩:∃ y_:List Int,y_=(([((x3_1.length:Int)) % 256]:List Int)):=⟨_,rfl⟩
 replace H:(if y232.length+x3_1.length<140737488355328 then(some (y232++x3_1)) else(none))=some r:=by first|(rw [hy232];with_reducible exact H)|(have H2_:=(Option.bind_some _ _).symm.trans H;rw [hy232];with_reducible exact H2_)|(have H2_:=(Option.bind_some _ _).symm.trans H;with_reducible exact H2_)|with_reducible exact H|(rw [hy232];exact H)|exact H
 have Ny232:=Aside0.mk hy232
 clear hy232
 by_cases c10:y232.length+x3_1.length<140737488355328
 rotate_left
 ·rw [if_neg c10] at H
  exact absurd H (by simp)
 rw [if_pos c10] at H
 have LMc10:=Aside0.mk c10
 clear c10
 obtain ⟨y235,hy235⟩:∃ y_:List Int,y_=(y232++x3_1):=⟨_,rfl⟩
 replace H:(some y235)=some r:=by first|(rw [hy235];with_reducible exact H)|(have H2_:=(Option.bind_some _ _).symm.trans H;rw [hy235];with_reducible exact H2_)|(have H2_:=(Option.bind_some _ _).symm.trans H;with_reducible exact H2_)|with_reducible exact H|(rw [hy235];exact H)|exact H
 have Ny235:=Aside0.mk hy235
 clear hy235
 obtain rfl:=sI_ H
 obtain ⟨Ao11,co11,eo11⟩:=Kd.R_slice HO_3.out
 subst eo11
 go_wp2_with (first|((with_reducible refine gate_dst (N:=18) rfl ?_);refine Kd.R_lit (Kd.int .u8) _ 5 ?hg (N:=18) ?hd (xs:=([((x3_1.length:Int)) % 256]:List Int)) (inner:=[.int .u8 (((x3_1.length:Int)) % 256)]) (ok:=λ_=>True) (okp:=λ_=>True) ?hr ?hp (λ_ hk=>hk) trivial (Below.refl _ _) (Nat.le_refl _) (by simp) ?_;(case hd=>rfl);(case hg=>rfl);(case hr=>exact z6_11);(case hp=>exact(Reps.one (show Kd.M (Kd.int .u8) _ _ _ (((x3_1.length:Int)) % 256) [.int .u8 (((x3_1.length:Int)) % 256)] from rfl) (Reps.none _ _)));intro v233 w12 ho13 hb hg_ hnew_;clear hg_ hnew_;(first|rw [<-Ny232.out] at ho13|(simp only [Int.reduceToNat] at ho13;rw [<-Ny232.out] at ho13));have HO234:=U (Kd.R_lower (Kd.R_new' ho13 (Kd.R_lt z6_2)) (below_size z6_0));replace HO_3:=U (Kd.R_elder' z6_2 (Kd.R_base ho13) hb);replace HB:=U (below_step z6_0 hb);clear hb ho13)|((with_reducible refine gate_builtin (b:=.append) (xs:=#[.tmp 18,.tmp 19]) rfl ?_);at_builtin;refine Kd.R_append_rows (Kd.int .u8) (w0:=w) w.heap.size rfl (.tmp 18) (.tmp 19) 38 5 (.int .u8 0) 1 rfl Try.underlying38 info5 rfl (by decide) (by omega) v233 y232 x3_1 _ _ _ (λk_=>some k_≠(.slice Ao11 x3_1.length co11:Value).ownBlock) (λ_=>False) rfl rfl ?aO ?aR (λ_ _ h=>h) (λ_ h=>h.elim) ?aF ?aB ?aS ?aL ?_;(case aR=>exact z6_12);(case aB=>exact z6_0);(case aF=>exact(λk_ hk=>Kd.fresh' (Kd.R_lt z6_2) k_ hk));(case aO=>exact(by(with_reducible repeat(first|apply Kd.R_alloc|apply Kd.R_drewN|apply Kd.R_drew));exact Kd.R_mono HO234.out (λ_ hk=>hk.2)));(case aS=>exact(below_size z6_0));(case aL=>have:=LMc10.out;omega);intro v236 w14 ho hb hg hat;rw [<-Ny235.out] at ho;replace HO_3:=U (Kd.R_after (ok:=(λ_=>True)) z6_2 hg hat);replace HB:=U (hb);have HO237:=U (ho);clear HO234;clear ho hb hg hat))
 go_ret
 exact ⟨_,z6_9,(by(with_reducible repeat(first|apply Kd.R_alloc|apply Kd.R_drewN|apply Kd.R_drew));exact Kd.R_mono HO237.out (λ_ hk=>trivial)),z6_0⟩
def r02_Text.f (k:Nat) (l0:List Int):Option (List Int):=(r02_Num.f k (IntKind.u64.wrap ((l0.length:Int)))).bind λt238=>(if t238.length+l0.length<140737488355328 then(some (t238++l0)) else(none))
theorem r02_Text.calls (k:Nat) (A0:Option Addr) (c0:Nat) (l0:List Int) (r:List Int) (w:World) (hr0:Kd.C (Kd.int .u8) w A0 l0.length l0) (hc0:l0.length<=c0) (h:r02_Text.f k l0=some r) :
  Calls Try.prog 79 #[.slice A0 l0.length c0] w λe w'=>∃ v0_:Value,e = .returned (v0_)/\Kd.R (Kd.int .u8) 5 w' w.heap.size (λ_=>True) v0_ r/\Below w.heap.size w w':=by
 have HR0:=Aside0.mk hr0
 have HC0:=Aside0.mk hc0
 clear hr0 hc0
 have HB:=U (Below.refl w.heap.size w)
 have H:((r02_Num.f k (IntKind.u64.wrap ((l0.length:Int)))).bind λt238=>(if t238.length+l0.length<140737488355328 then(some (t238++l0)) else(none)))=some r:=h
 clear h
 replace H:=oB_ H
 obtain ⟨t238,A20,H⟩:=H
 replace H:(if t238.length+l0.length<140737488355328 then(some (t238++l0)) else(none))=some r:=H
 have A2:=Aside0.mk A20
 clear A20
 by_cases c3:t238.length+l0.length<140737488355328
 rotate_left
 ·rw [if_neg c3] at H
  exact absurd H (by simp)
 rw [if_pos c3] at H
 have LMc3:=Aside0.mk c3
 clear c3
 obtain ⟨y241,hy241⟩:∃ y_:List Int,y_=(t238++l0):=⟨_,rfl⟩
 replace H:(some y241)=some r:=by first|(rw [hy241];with_reducible exact H)|(have H2_:=(Option.bind_some _ _).symm.trans H;rw [hy241];with_reducible exact H2_)|(have H2_:=(Option.bind_some _ _).symm.trans H;with_reducible exact H2_)|with_reducible exact H|(rw [hy241];exact H)|exact H
 have Ny241:=Aside0.mk hy241
 clear hy241
 obtain rfl:=sI_ H
 go_enter Try.func79,Try.ntmps79
 go_wp2_with (first|((with_reducible refine gate_callee (f:=47) rfl ?_);refine goesL_ (some 6) rfl rfl Try.func47 (by kernel_rfl) rfl #[.int .u64 (IntKind.u64.wrap ((l0.length:Int)))] rfl z6_6 ?_;(with_reducible refine(r02_Num.calls k (IntKind.u64.wrap ((l0.length:Int))) t238 _ A2.out).mono ?_);rintro e w4 ⟨v239,rfl,ho0,hb⟩;refine ⟨_,rfl,?_⟩;have HO240:=U (Kd.R_lower ho0 (below_size z6_0));replace HB:=U (below_step z6_0 hb);(try clear hb);(try clear hb2);(try clear hk);(try clear hi);(try clear ho0))|((with_reducible refine gate_builtin (b:=.append) (xs:=#[.tmp 6,.tmp 7]) rfl ?_);at_builtin;refine Kd.R_append_rows (Kd.int .u8) (w0:=w) w.heap.size rfl (.tmp 6) (.tmp 7) 38 5 (.int .u8 0) 1 rfl Try.underlying38 info5 rfl (by decide) (by omega) v239 t238 l0 _ _ _ (λ_=>True) (λ_=>False) rfl rfl ?aO ?aR (λ_ _ h=>h) (λ_ h=>h.elim) ?aF ?aB ?aS ?aL ?_;(case aR=>repeat(first|exact(Kd.C_below HR0.out HB.out)|(with_reducible refine Kd.C_alloc ?_ _)|(with_reducible refine Kd.C_drewN ?_ _)|(with_reducible refine Kd.C_drew ?_)));(case aB=>exact z6_0);(case aF=>exact(λ_ _=>trivial));(case aO=>exact(by(with_reducible repeat(first|apply Kd.R_alloc|apply Kd.R_drewN|apply Kd.R_drew));exact HO240.out));(case aS=>exact(below_size z6_0));(case aL=>have:=LMc3.out;omega);intro v242 w5 ho hb hg hat;rw [<-Ny241.out] at ho;replace HB:=U (hb);have HO243:=U (ho);clear HO240;clear ho hb hg hat))
 go_ret
 exact ⟨_,z6_9,(by(with_reducible repeat(first|apply Kd.R_alloc|apply Kd.R_drewN|apply Kd.R_drew));exact HO243.out),z6_0⟩
def r01_run.l0:Nat->Int->List Int->Int->Option (Int)
 | 0,_,_,_=>none
 | k+1,x0,x1,x5=>if x5<(x1.length:Int) then(if 0<=x5 then(if ((Int.tdiv x0 2147483648) % 4294967296)=(rd x1 x5) then(r01_run.l0 k ((x0*2) % 4294967296) x1 (wrap64 (x5+1))) else(r01_run.l0 k (Go.bits .xor .u32 ((x0*2) % 4294967296) 79764919) x1 (wrap64 (x5+1)))) else(none)) else(some x0)
def r01_run.f (k:Nat) (a0:Int) (l1:List Int):Option (Int):=r01_run.l0 k a0 l1 0
theorem r01_run.calls (k:Nat) (a0:Int) (A1:Option Addr) (c1:Nat) (l1:List Int) (r:Int) (w:World) (hr1:Kd.C (Kd.int .i64) w A1 l1.length l1) (hc1:l1.length<=c1) (h:r01_run.f k a0 l1=some r) :
  Calls Try.prog 110 #[.int .u32 a0,.slice A1 l1.length c1] w λe w'=>e = .returned (.int .u32 r)/\Drawn0 w w':=by
 have HR1:=Aside0.mk hr1
 have HC1:=Aside0.mk hc1
 clear hr1 hc1
 have H:(r01_run.l0 k a0 l1 0)=some r:=h
 clear h
 have H':=Aside0.mk H
 clear H
 go_enter Try.func110,Try.ntmps110
 go_wp2
 go_loopg [0,5] k (λkq v0 v5 w'=>∃ (x0_1:Int) (x5_1:Int),v0 = .int .u32 x0_1/\v5 = .int .i64 x5_1/\Aside0 (r01_run.l0 kq x0_1 l1 x5_1=some r)/\Aside0 (kq<=k)/\Drawn0 w w')
 case atStart=>exact ⟨(a0),(0),z5_2,z5_2,H',⟨Nat.le_refl _⟩,z5_1⟩
 case round =>
 clear H'
 try clear c1
 try clear p2
 obtain ⟨x0_1,x5_1,rfl,rfl,HA,HK1,⟨m1,rfl⟩⟩:=hrel
 cases gk with
 | zero=>exact absurd HA.out (by simp [r01_run.l0])
 | succ k1 =>
 have H:=HA.out
 clear HA
 simp only [r01_run.l0] at H
 by_cases c3:x5_1<(l1.length:Int)
 rotate_left
 ·rw [if_neg c3] at H
  have c3b0:decide (x5_1<(l1.length:Int))=false:=dF_ c3
  clear c3
  obtain rfl:=sI_ H
  go_wp2
  go_ret
  exact ⟨z5_2,z5_1⟩
 rw [if_pos c3] at H
 have c3b0:decide (x5_1<(l1.length:Int))=true:=dT_ c3
 clear c3
 by_cases c4:0<=x5_1
 rotate_left
 ·rw [if_neg c4] at H
  exact absurd H (by simp)
 rw [if_pos c4] at H
 have c4b0:decide (0<=x5_1)=true:=dT_ c4
 clear c4
 by_cases c5:((Int.tdiv x0_1 2147483648) % 4294967296)=(rd l1 x5_1)
 rotate_left
 ·rw [if_neg c5] at H
  have c5b0:(((Int.tdiv x0_1 2147483648) % 4294967296) == (rd l1 x5_1))=false:=beq_eq_false_iff_ne.mpr c5
  have c5b1:(((Int.tdiv x0_1 2147483648) % 4294967296) != (rd l1 x5_1))=true:=bne_iff_ne.mpr c5
  have H':=Aside0.mk H
  clear H
  have p244:0<=(x5_1:Int):=oD_ z5_0
  have q244:x5_1<(l1.length:Int):=oD_ z5_0
  obtain ⟨ad244,e244,hx244_0⟩:=Kd.at_int HR1.out x5_1 p244 q244
  cases e244
  replace p244:=eq_true p244
  replace q244:=eq_true q244
  go_wp2
  go_roundg k1
  case measure=>have:=HK1.out;omega
  case rel=>exact ⟨(Go.bits .xor .u32 ((x0_1*2) % 4294967296) 79764919),(wrap64 (x5_1+1)),z5_2,z5_2,H',⟨(by have:=HK1.out;omega)⟩,z5_1⟩
 rw [if_pos c5] at H
 have c5b0:(((Int.tdiv x0_1 2147483648) % 4294967296) == (rd l1 x5_1))=true:=beq_iff_eq.mpr c5
 have c5b1:(((Int.tdiv x0_1 2147483648) % 4294967296) != (rd l1 x5_1))=false:=bne_eq_false_iff_eq.mpr c5
 clear c5
 have H':=Aside0.mk H
 clear H
 have p244:0<=(x5_1:Int):=oD_ z5_0
 have q244:x5_1<(l1.length:Int):=oD_ z5_0
 obtain ⟨ad244,e244,hx244_0⟩:=Kd.at_int HR1.out x5_1 p244 q244
 cases e244
 replace p244:=eq_true p244
 replace q244:=eq_true q244
 go_wp2
 go_roundg k1
 case measure=>have:=HK1.out;omega
 case rel=>exact ⟨((x0_1*2) % 4294967296),(wrap64 (x5_1+1)),z5_2,z5_2,H',⟨(by have:=HK1.out;omega)⟩,z5_1⟩
mutual
def r01_Bits.l0:Nat->List Int->List Int->Int->Option (List Int)
 | 0,_,_,_=>none
 | k+1,x0,x3,x4=>if x4<(x0.length:Int) then(if 0<=x4 then(r01_Bits.l1 k x0 x3 x4 (wrap64 (rd x0 x4)) 128) else(none)) else(some x3)
def r01_Bits.l1:Nat->List Int->List Int->Int->Int->Int->Option (List Int)
 | 0,_,_,_,_,_=>none
 | k+1,x0,x3,x4,x5,x6=>if x6 > 0 then(if x6=0 then(none) else(if x3.length<17592186044416 then(r01_Bits.l1 k x0 (x3++[Int.tmod (wrap64 (Int.tdiv x5 x6)) 2]) x4 x5 (wrap64 (Int.tdiv x6 2))) else(none))) else(r01_Bits.l0 k x0 x3 (wrap64 (x4+1)))
end
def r01_Bits.f (k:Nat) (l0:List Int):Option (List Int):=r01_Bits.l0 k l0 (([]:List Int)) 0
theorem r01_Bits.calls (k:Nat) (A0:Option Addr) (c0:Nat) (l0:List Int) (r:List Int) (w:World) (hr0:Kd.C (Kd.int .u8) w A0 l0.length l0) (hc0:l0.length<=c0) (h:r01_Bits.f k l0=some r) :
  Calls Try.prog 111 #[.slice A0 l0.length c0] w λe w'=>∃ v0_:Value,e = .returned (v0_)/\Kd.R (Kd.int .i64) 3 w' w.heap.size (λ_=>True) v0_ r/\Below w.heap.size w w':=by
 have HR0:=Aside0.mk hr0
 have HC0:=Aside0.mk hc0
 clear hr0 hc0
 have HB:=U (Below.refl w.heap.size w)
 have H:(r01_Bits.l0 k l0 (([]:List Int)) 0)=some r:=h
 clear h
 obtain ⟨y245,hy245⟩:∃ y_:List Int,y_=(([]:List Int)):=⟨_,rfl⟩
 replace H:(r01_Bits.l0 k l0 y245 0)=some r:=by first|(rw [hy245];with_reducible exact H)|(have H2_:=(Option.bind_some _ _).symm.trans H;rw [hy245];with_reducible exact H2_)|(have H2_:=(Option.bind_some _ _).symm.trans H;with_reducible exact H2_)|with_reducible exact H|(rw [hy245];exact H)|exact H
 have Ny245:=Aside0.mk hy245
 clear hy245
 have H':=Aside0.mk H
 clear H
 go_enter Try.func111,Try.ntmps111
 go_wp2_with (first|((with_reducible refine gate_dst (N:=7) rfl ?_);refine Kd.R_lit (Kd.int .i64) _ 3 ?hg (N:=7) ?hd (xs:=([]:List Int)) (inner:=[]) (ok:=λ_=>True) (okp:=λ_=>True) ?hr ?hp (λ_ hk=>hk) trivial (Below.refl _ _) (Nat.le_refl _) (by simp) ?_;(case hd=>rfl);(case hg=>rfl);(case hr=>exact z6_11);(case hp=>exact(Reps.none _ _));intro v246 w2 ho3 hb hg_ hnew_;clear hg_ hnew_;(first|rw [<-Ny245.out] at ho3|(simp only [Int.reduceToNat] at ho3;rw [<-Ny245.out] at ho3));have HO247:=U (Kd.R_lower ho3 (below_size z6_0));replace HB:=U (below_step z6_0 hb);clear hb ho3))
 go_loopg [3,4] k (λkq v3 v4 w'=>∃ (x3_1:List Int) (x4_1:Int),v4 = .int .i64 x4_1/\Aside0 (r01_Bits.l0 kq l0 x3_1 x4_1=some r)/\Aside0 (kq<=k)/\Aside0 (Kd.R (Kd.int .i64) 3 w' w.heap.size (λ_=>True) v3 x3_1)/\Aside0 (Below w.heap.size w w'))
 case atStart=>exact ⟨(y245),(0),z5_2,H',⟨Nat.le_refl _⟩,⟨(by(with_reducible repeat(first|apply Kd.R_alloc|apply Kd.R_drewN|apply Kd.R_drew));exact HO247.out)⟩,⟨z6_0⟩⟩
 case round =>
 clear H'
 try clear c1
 try clear p2
 obtain ⟨x3_1,x4_1,rfl,HA,HK1,HO_3,HB⟩:=hrel
 cases gk with
 | zero=>exact absurd HA.out (by simp [r01_Bits.l0])
 | succ k1 =>
 have H:=HA.out
 clear HA
 simp only [r01_Bits.l0] at H
 by_cases c4:x4_1<(l0.length:Int)
 rotate_left
 ·rw [if_neg c4] at H
  have c4b0:decide (x4_1<(l0.length:Int))=false:=dF_ c4
  clear c4
  obtain rfl:=sI_ H
  go_wp2
  go_ret
  exact ⟨_,z6_9,z6_2,z6_0⟩
 rw [if_pos c4] at H
 have c4b0:decide (x4_1<(l0.length:Int))=true:=dT_ c4
 clear c4
 by_cases c5:0<=x4_1
 rotate_left
 ·rw [if_neg c5] at H
  exact absurd H (by simp)
 rw [if_pos c5] at H
 have c5b0:decide (0<=x4_1)=true:=dT_ c5
 clear c5
 have H':=Aside0.mk H
 clear H
 have p248:0<=(x4_1:Int):=oD_ z5_0
 have q248:x4_1<(l0.length:Int):=oD_ z5_0
 obtain ⟨ad248,e248,hx248_0⟩:=Kd.at_int HR0.out x4_1 p248 q248
 cases e248
 replace hx248_0:=(HB.out.cell (World.block_lt_of_cell? w _ hx248_0)).trans hx248_0
 replace p248:=eq_true p248
 replace q248:=eq_true q248
 go_wp2
 go_loopg [3,6] k1 (λkq v3 v6 w'=>∃ (x3_2:List Int) (x6_2:Int),v6 = .int .i64 x6_2/\Aside0 (r01_Bits.l1 kq l0 x3_2 x4_1 (wrap64 (rd l0 x4_1)) x6_2=some r)/\Aside0 (kq<=k1)/\Aside0 (Kd.R (Kd.int .i64) 3 w' w.heap.size (λ_=>True) v3 x3_2)/\Aside0 (Below w.heap.size w w'))
 case atStart=>exact ⟨(x3_1),(128),z5_2,H',⟨Nat.le_refl _⟩,⟨z6_2⟩,⟨z6_0⟩⟩
 case round =>
 clear H'
 try clear c1
 try clear p2
 try clear q2
 try clear hx2
 try clear c4
 try clear c4b0
 try clear c5
 try clear c5b0
 try clear hx248_0
 try clear p2
 try clear p248
 try clear q248
 obtain ⟨x3_2,x6_2,rfl,HA,HK2,HO_3,HB⟩:=hrel
 cases gk with
 | zero=>exact absurd HA.out (by simp [r01_Bits.l1])
 | succ k2 =>
 have H:=HA.out
 clear HA
 simp only [r01_Bits.l1] at H
 by_cases c6:x6_2 > 0
 rotate_left
 ·rw [if_neg c6] at H
  have c6b0:decide (0<x6_2)=false:=dF_ c6
  clear c6
  have H':=Aside0.mk H
  clear H
  go_wp2
  go_roundg k2
  case measure=>have:=HK1.out;have:=HK2.out;omega
  case rel=>exact ⟨(x3_2),(wrap64 (x4_1+1)),z5_2,H',⟨(by have:=HK1.out;have:=HK2.out;omega)⟩,⟨z6_2⟩,⟨z6_0⟩⟩
 rw [if_pos c6] at H
 have c6b0:decide (0<x6_2)=true:=dT_ c6
 clear c6
 by_cases c7:x6_2=0
 ·rw [if_pos c7] at H
  exact absurd H (by simp)
 rw [if_neg c7] at H
 have c7b0:(x6_2 == 0)=false:=beq_eq_false_iff_ne.mpr c7
 have c7b1:(x6_2 != 0)=true:=bne_iff_ne.mpr c7
 by_cases c8:x3_2.length<17592186044416
 rotate_left
 ·rw [if_neg c8] at H
  exact absurd H (by simp)
 rw [if_pos c8] at H
 have LMc8:=Aside0.mk c8
 clear c8
 obtain ⟨y249,hy249⟩:∃ y_:List Int,y_=(x3_2++[Int.tmod (wrap64 (Int.tdiv (wrap64 (rd l0 x4_1)) x6_2)) 2]):=⟨_,rfl⟩
 replace H:(r01_Bits.l1 k2 l0 y249 x4_1 (wrap64 (rd l0 x4_1)) (wrap64 (Int.tdiv x6_2 2)))=some r:=by first|(rw [hy249];with_reducible exact H)|(have H2_:=(Option.bind_some _ _).symm.trans H;rw [hy249];with_reducible exact H2_)|(have H2_:=(Option.bind_some _ _).symm.trans H;with_reducible exact H2_)|with_reducible exact H|(rw [hy249];exact H)|exact H
 have Ny249:=Aside0.mk hy249
 clear hy249
 have H':=Aside0.mk H
 clear H
 go_wp2_with (first|((with_reducible refine gate_builtin (b:=.append) (xs:=#[.tmp 23,.tmp 28]) rfl ?_);at_builtin;refine Kd.R_append (Kd.int .i64) (w0:=w) w.heap.size rfl (.tmp 23) (.tmp 28) 55 3 (.int .i64 0) 8 rfl Try.underlying55 info3 rfl (by decide) (by omega) u3 x3_2 (Int.tmod (wrap64 (Int.tdiv (wrap64 (rd l0 x4_1)) x6_2)) 2) [.int .i64 (Int.tmod (wrap64 (Int.tdiv (wrap64 (rd l0 x4_1)) x6_2)) 2)] (λ_=>True) (λ_=>False) rfl rfl ?aP (λ_ hk=>hk.elim) ?aF ?aO ?aB ?aS ?aL ?_;(case aP=>exact rfl);(case aB=>exact z6_0);(case aF=>exact(λ_ _=>trivial));(case aO=>exact z6_2);(case aS=>exact(below_size z6_0));(case aL=>have:=LMc8.out;omega);intro v250 w9 ho hb hg hat;rw [<-Ny249.out] at ho;replace HB:=U (hb);have HO251:=U (ho);clear HO_3;clear ho hb hg hat))
 go_roundg k2
 case measure=>have:=HK1.out;have:=HK2.out;omega
 case rel=>exact ⟨(y249),(wrap64 (Int.tdiv x6_2 2)),z5_2,H',⟨(by have:=HK1.out;have:=HK2.out;omega)⟩,⟨(by(with_reducible repeat(first|apply Kd.R_alloc|apply Kd.R_drewN|apply Kd.R_drew));exact HO251.out)⟩,⟨z6_0⟩⟩
def r01_Of.f (k:Nat) (l0:List Int):Option (Int):=(r01_Bits.f k l0).bind λt252=>((r01_run.f k 4294967295 t252).bind λt255=>(some (Go.bits .xor .u32 4294967295 t255)))
theorem r01_Of.calls (k:Nat) (A0:Option Addr) (c0:Nat) (l0:List Int) (r:Int) (w:World) (hr0:Kd.C (Kd.int .u8) w A0 l0.length l0) (hc0:l0.length<=c0) (h:r01_Of.f k l0=some r) :
  Calls Try.prog 80 #[.slice A0 l0.length c0] w λe w'=>e = .returned (.int .u32 r)/\Below w.heap.size w w':=by
 have HR0:=Aside0.mk hr0
 have HC0:=Aside0.mk hc0
 clear hr0 hc0
 have HB:=U (Below.refl w.heap.size w)
 have H:((r01_Bits.f k l0).bind λt252=>((r01_run.f k 4294967295 t252).bind λt255=>(some (Go.bits .xor .u32 4294967295 t255))))=some r:=h
 clear h
 replace H:=oB_ H
 obtain ⟨t252,A20,H⟩:=H
 replace H:((r01_run.f k 4294967295 t252).bind λt255=>(some (Go.bits .xor .u32 4294967295 t255)))=some r:=H
 have A2:=Aside0.mk A20
 clear A20
 replace H:=oB_ H
 obtain ⟨t255,A30,H⟩:=H
 replace H:(some (Go.bits .xor .u32 4294967295 t255))=some r:=H
 have A3:=Aside0.mk A30
 clear A30
 obtain rfl:=sI_ H
 go_enter Try.func80,Try.ntmps80
 go_wp2_with (first|((with_reducible refine gate_callee (f:=111) rfl ?_);refine goesL_ (some 4) rfl rfl Try.func111 (by kernel_rfl) rfl #[.slice A0 l0.length c0] rfl z6_6 ?_;(with_reducible refine(r01_Bits.calls k _ _ l0 t252 _ ?side1 ?side2 A2.out).mono ?_);(case side1=>repeat(first|exact HR0.out|(with_reducible refine Kd.C_alloc ?_ _)|(with_reducible refine Kd.C_drewN ?_ _)|(with_reducible refine Kd.C_drew ?_)));(case side2=>exact HC0.out);rintro e w4 ⟨v253,rfl,ho0,hb⟩;refine ⟨_,rfl,?_⟩;have HO254:=U (Kd.R_lower ho0 (below_size z6_0));replace HB:=U (below_step z6_0 hb);(try clear hb);(try clear hb2);(try clear hk);(try clear hi);(try clear ho0);obtain ⟨Ao5,co5,eo5⟩:=Kd.R_slice HO254.out;subst eo5)|((with_reducible refine gate_callee (f:=110) rfl ?_);refine goesL_ (some 5) rfl rfl Try.func110 (by kernel_rfl) rfl #[.int .u32 4294967295,.slice Ao5 t252.length co5] rfl z6_6 ?_;(with_reducible refine(r01_run.calls k 4294967295 _ _ t252 t255 _ ?side1 ?side2 A3.out).mono ?_);(case side1=>repeat(first|exact(Kd.R_reads' HO254.out).2.2|(with_reducible refine Kd.C_alloc ?_ _)|(with_reducible refine Kd.C_drewN ?_ _)|(with_reducible refine Kd.C_drew ?_)));(case side2=>exact(Kd.R_reads' HO254.out).2.1);rintro e w' ⟨rfl,⟨nd,rfl⟩⟩;refine ⟨_,rfl,?_⟩))
 go_ret
 exact ⟨z6_9,z6_0⟩
def r02_Record.f (k:Nat) (a0:Int) (l1:List Int):Option (List Int):=(some (([(a0) % 256]:List Int):List Int)).bind λy256=>((r02_Text.f k l1).bind λt259=>(if y256.length+t259.length<140737488355328 then((some (y256++t259:List Int)).bind λy262=>((r01_Of.f k y262).bind λt265=>((some (([((Int.tdiv t265 16777216) % 4294967296) % 256,((Int.tdiv t265 65536) % 4294967296) % 256,((Int.tdiv t265 256) % 4294967296) % 256,(Int.tmod t265 256) % 256]:List Int):List Int)).bind λy266=>(if y262.length+y266.length<140737488355328 then(some (y262++y266)) else(none))))) else(none)))
theorem r02_Record.calls (k:Nat) (a0:Int) (A1:Option Addr) (c1:Nat) (l1:List Int) (r:List Int) (w:World) (hr1:Kd.C (Kd.int .u8) w A1 l1.length l1) (hc1:l1.length<=c1) (h:r02_Record.f k a0 l1=some r) :
  Calls Try.prog 46 #[.int .i64 a0,.slice A1 l1.length c1] w λe w'=>∃ v0_:Value,e = .returned (v0_)/\Kd.R (Kd.int .u8) 5 w' w.heap.size (λ_=>True) v0_ r/\Below w.heap.size w w':=by
 have HR1:=Aside0.mk hr1
 have HC1:=Aside0.mk hc1
 clear hr1 hc1
 have HB:=U (Below.refl w.heap.size w)
 have H:((some (([(a0) % 256]:List Int):List Int)).bind λy256=>((r02_Text.f k l1).bind λt259=>(if y256.length+t259.length<140737488355328 then((some (y256++t259:List Int)).bind λy262=>((r01_Of.f k y262).bind λt265=>((some (([((Int.tdiv t265 16777216) % 4294967296) % 256,((Int.tdiv t265 65536) % 4294967296) % 256,((Int.tdiv t265 256) % 4294967296) % 256,(Int.tmod t265 256) % 256]:List Int):List Int)).bind λy266=>(if y262.length+y266.length<140737488355328 then(some (y262++y266)) else(none))))) else(none))))=some r:=h
 clear h
 obtain ⟨y256,hy256⟩:∃ y_:List Int,y_=(([(a0) % 256]:List Int)):=⟨_,rfl⟩
 replace H:((r02_Text.f k l1).bind λt259=>(if y256.length+t259.length<140737488355328 then((some (y256++t259:List Int)).bind λy262=>((r01_Of.f k y262).bind λt265=>((some (([((Int.tdiv t265 16777216) % 4294967296) % 256,((Int.tdiv t265 65536) % 4294967296) % 256,((Int.tdiv t265 256) % 4294967296) % 256,(Int.tmod t265 256) % 256]:List Int):List Int)).bind λy266=>(if y262.length+y266.length<140737488355328 then(some (y262++y266)) else(none))))) else(none)))=some r:=by first|(rw [hy256];with_reducible exact H)|(have H2_:=(Option.bind_some _ _).symm.trans H;rw [hy256];with_reducible exact H2_)|(have H2_:=(Option.bind_some _ _).symm.trans H;with_reducible exact H2_)|with_reducible exact H|(rw [hy256];exact H)|exact H
 have Ny256:=Aside0.mk hy256
 clear hy256
 replace H:=oB_ H
 obtain ⟨t259,A30,H⟩:=H
 replace H:(if y256.length+t259.length<140737488355328 then((some (y256++t259:List Int)).bind λy262=>((r01_Of.f k y262).bind λt265=>((some (([((Int.tdiv t265 16777216) % 4294967296) % 256,((Int.tdiv t265 65536) % 4294967296) % 256,((Int.tdiv t265 256) % 4294967296) % 256,(Int.tmod t265 256) % 256]:List Int):List Int)).bind λy266=>(if y262.length+y266.length<140737488355328 then(some (y262++y266)) else(none))))) else(none))=some r:=H
 have A3:=Aside0.mk A30
 clear A30
 by_cases c4:y256.length+t259.length<140737488355328
 rotate_left
 ·rw [if_neg c4] at H
  exact absurd H (by simp)
 rw [if_pos c4] at H
 have LMc4:=Aside0.mk c4
 clear c4
 obtain ⟨y262,hy262⟩:∃ y_:List Int,y_=(y256++t259):=⟨_,rfl⟩
 replace H:((r01_Of.f k y262).bind λt265=>((some (([((Int.tdiv t265 16777216) % 4294967296) % 256,((Int.tdiv t265 65536) % 4294967296) % 256,((Int.tdiv t265 256) % 4294967296) % 256,(Int.tmod t265 256) % 256]:List Int):List Int)).bind λy266=>(if y262.length+y266.length<140737488355328 then(some (y262++y266)) else(none))))=some r:=by first|(rw [hy262];with_reducible exact H)|(have H2_:=(Option.bind_some _ _).symm.trans H;rw [hy262];with_reducible exact H2_)|(have H2_:=(Option.bind_some _ _).symm.trans H;with_reducible exact H2_)|with_reducible exact H|(rw [hy262];exact H)|exact H
 have Ny262:=Aside0.mk hy262
 clear hy262
 replace H:=oB_ H
 obtain ⟨t265,A50,H⟩:=H
 replace H:((some (([((Int.tdiv t265 16777216) % 4294967296) % 256,((Int.tdiv t265 65536) % 4294967296) % 256,((Int.tdiv t265 256) % 4294967296) % 256,(Int.tmod t265 256) % 256]:List Int):List Int)).bind λy266=>(if y262.length+y266.length<140737488355328 then(some (y262++y266)) else(none)))=some r:=H
 have A5:=Aside0.mk A50
 clear A50
 obtain ⟨y266,hy266⟩:∃ y_:List Int,y_=(([((Int.tdiv t265 16777216) % 4294967296) % 256,((Int.tdiv t265 65536) % 4294967296) % 256,((Int.tdiv t265 256) % 4294967296) % 256,(Int.tmod t265 256) % 256]:List Int)):=⟨_,rfl⟩
 replace H:(if y262.length+y266.length<140737488355328 then(some (y262++y266)) else(none))=some r:=by first|(rw [hy266];with_reducible exact H)|(have H2_:=(Option.bind_some _ _).symm.trans H;rw [hy266];with_reducible exact H2_)|(have H2_:=(Option.bind_some _ _).symm.trans H;with_reducible exact H2_)|with_reducible exact H|(rw [hy266];exact H)|exact H
 have Ny266:=Aside0.mk hy266
 clear hy266
 by_cases c6:y262.length+y266.length<140737488355328
 rotate_left
 ·rw [if_neg c6] at H
  exact absurd H (by simp)
 rw [if_pos c6] at H
 have LMc6:=Aside0.mk c6
 clear c6
 obtain ⟨y269,hy269⟩:∃ y_:List Int,y_=(y262++y266):=⟨_,rfl⟩
 replace H:(some y269)=some r:=by first|(rw [hy269];with_reducible exact H)|(have H2_:=(Option.bind_some _ _).symm.trans H;rw [hy269];with_reducible exact H2_)|(have H2_:=(Option.bind_some _ _).symm.trans H;with_reducible exact H2_)|with_reducible exact H|(rw [hy269];exact H)|exact H
 have Ny269:=Aside0.mk hy269
 clear hy269
 obtain rfl:=sI_ H
 go_enter Try.func46,Try.ntmps46
 go_wp2_with (first|((with_reducible refine gate_dst (N:=9) rfl ?_);refine Kd.R_lit (Kd.int .u8) _ 5 ?hg (N:=9) ?hd (xs:=([(a0) % 256]:List Int)) (inner:=[.int .u8 ((a0) % 256)]) (ok:=λ_=>True) (okp:=λ_=>True) ?hr ?hp (λ_ hk=>hk) trivial (Below.refl _ _) (Nat.le_refl _) (by simp) ?_;(case hd=>rfl);(case hg=>rfl);(case hr=>exact z6_11);(case hp=>exact(Reps.one (show Kd.M (Kd.int .u8) _ _ _ ((a0) % 256) [.int .u8 ((a0) % 256)] from rfl) (Reps.none _ _)));intro v257 w7 ho8 hb hg_ hnew_;clear hg_ hnew_;(first|rw [<-Ny256.out] at ho8|(simp only [Int.reduceToNat] at ho8;rw [<-Ny256.out] at ho8));have HO258:=U (Kd.R_lower ho8 (below_size z6_0));replace HB:=U (below_step z6_0 hb);clear hb ho8)|((with_reducible refine gate_callee (f:=79) rfl ?_);refine goesL_ (some 11) rfl rfl Try.func79 (by kernel_rfl) rfl #[.slice A1 l1.length c1] rfl z6_6 ?_;(with_reducible refine(r02_Text.calls k _ _ l1 t259 _ ?side1 ?side2 A3.out).mono ?_);(case side1=>repeat(first|exact(Kd.C_below HR1.out HB.out)|(with_reducible refine Kd.C_alloc ?_ _)|(with_reducible refine Kd.C_drewN ?_ _)|(with_reducible refine Kd.C_drew ?_)));(case side2=>exact HC1.out);rintro e w9 ⟨v260,rfl,ho0,hb⟩;refine ⟨_,rfl,?_⟩;have HO261:=U (Kd.R_lower (Kd.R_new' ho0 (Kd.R_lt (by(with_reducible repeat(first|apply Kd.R_alloc|apply Kd.R_drewN|apply Kd.R_drew));exact HO258.out))) (below_size z6_0));replace HO258:=U (Kd.R_elder' (by(with_reducible repeat(first|apply Kd.R_alloc|apply Kd.R_drewN|apply Kd.R_drew));exact HO258.out) (Kd.R_base ho0) hb);replace HB:=U (below_step z6_0 hb);(try clear hb);(try clear hb2);(try clear hk);(try clear hi);(try clear ho0);obtain ⟨Ao11,co11,eo11⟩:=Kd.R_slice HO261.out;subst eo11)|((with_reducible refine gate_builtin (b:=.append) (xs:=#[.tmp 9,.tmp 11]) rfl ?_);at_builtin;refine Kd.R_append_rows (Kd.int .u8) (w0:=w) w.heap.size rfl (.tmp 9) (.tmp 11) 38 5 (.int .u8 0) 1 rfl Try.underlying38 info5 rfl (by decide) (by omega) v257 y256 t259 _ _ _ (λk_=>some k_≠(.slice Ao11 t259.length co11:Value).ownBlock) (λ_=>False) rfl rfl ?aO ?aR (λ_ _ h=>h) (λ_ h=>h.elim) ?aF ?aB ?aS ?aL ?_;(case aR=>repeat(first|exact(Kd.R_reads' HO261.out).2.2|(with_reducible refine Kd.C_alloc ?_ _)|(with_reducible refine Kd.C_drewN ?_ _)|(with_reducible refine Kd.C_drew ?_)));(case aB=>exact z6_0);(case aF=>exact(λk_ hk=>Kd.fresh' (Kd.R_lt z6_7) k_ hk));(case aO=>exact(by(with_reducible repeat(first|apply Kd.R_alloc|apply Kd.R_drewN|apply Kd.R_drew));exact Kd.R_mono HO258.out (λ_ hk=>hk.2)));(case aS=>exact(below_size z6_0));(case aL=>have:=LMc4.out;omega);intro v263 w10 ho hb hg hat;rw [<-Ny262.out] at ho;replace HO261:=U (Kd.R_after (ok:=(λ_=>True)) z6_7 hg hat);replace HB:=U (hb);have HO264:=U (ho);clear HO258;clear ho hb hg hat;obtain ⟨Ao12,co12,eo12⟩:=Kd.R_slice HO264.out;subst eo12)|((with_reducible refine gate_callee (f:=80) rfl ?_);refine goesL_ (some 14) rfl rfl Try.func80 (by kernel_rfl) rfl #[.slice Ao12 y262.length co12] rfl z6_6 ?_;(with_reducible refine(r01_Of.calls k _ _ y262 t265 _ ?side1 ?side2 A5.out).mono ?_);(case side1=>repeat(first|exact(Kd.R_reads' HO264.out).2.2|(with_reducible refine Kd.C_alloc ?_ _)|(with_reducible refine Kd.C_drewN ?_ _)|(with_reducible refine Kd.C_drew ?_)));(case side2=>exact(Kd.R_reads' HO264.out).2.1);rintro e w13 ⟨rfl,hb⟩;refine ⟨_,rfl,?_⟩;replace HO261:=U (Kd.R_below z6_7 hb);replace HO264:=U (Kd.R_below z6_10 hb);replace HB:=U (below_step z6_0 hb);(try clear hb);(try clear hb2);(try clear hk);(try clear hi))|((with_reducible refine gate_dst (N:=30) rfl ?_);refine Kd.R_lit (Kd.int .u8) _ 5 ?hg (N:=30) ?hd (xs:=([((Int.tdiv t265 16777216) % 4294967296) % 256,((Int.tdiv t265 65536) % 4294967296) % 256,((Int.tdiv t265 256) % 4294967296) % 256,(Int.tmod t265 256) % 256]:List Int)) (inner:=[.int .u8 (((Int.tdiv t265 16777216) % 4294967296) % 256),.int .u8 (((Int.tdiv t265 65536) % 4294967296) % 256),.int .u8 (((Int.tdiv t265 256) % 4294967296) % 256),.int .u8 ((Int.tmod t265 256) % 256)]) (ok:=λ_=>True) (okp:=λ_=>True) ?hr ?hp (λ_ hk=>hk) trivial (Below.refl _ _) (Nat.le_refl _) (by simp) ?_;(case hd=>rfl);(case hg=>rfl);(case hr=>exact z6_11);(case hp=>exact(Reps.one (show Kd.M (Kd.int .u8) _ _ _ (((Int.tdiv t265 16777216) % 4294967296) % 256) [.int .u8 (((Int.tdiv t265 16777216) % 4294967296) % 256)] from rfl) (Reps.one (show Kd.M (Kd.int .u8) _ _ _ (((Int.tdiv t265 65536) % 4294967296) % 256) [.int .u8 (((Int.tdiv t265 65536) % 4294967296) % 256)] from rfl) (Reps.one (show Kd.M (Kd.int .u8) _ _ _ (((Int.tdiv t265 256) % 4294967296) % 256) [.int .u8 (((Int.tdiv t265 256) % 4294967296) % 256)] from rfl) (Reps.one (show Kd.M (Kd.int .u8) _ _ _ ((Int.tmod t265 256) % 256) [.int .u8 ((Int.tmod t265 256) % 256)] from rfl) (Reps.none _ _))))));intro v267 w14 ho15 hb hg_ hnew_;clear hg_ hnew_;(first|rw [<-Ny266.out] at ho15|(simp only [Int.reduceToNat] at ho15;rw [<-Ny266.out] at ho15));have HO268:=U (Kd.R_lower (Kd.R_new' (Kd.R_new' ho15 (Kd.R_lt z6_7)) (Kd.R_lt z6_10)) (below_size z6_0));replace HO261:=U (Kd.R_elder' z6_7 (Kd.R_base ho15) hb);replace HO264:=U (Kd.R_elder' z6_10 (Kd.R_base ho15) hb);replace HB:=U (below_step z6_0 hb);clear hb ho15;obtain ⟨Ao17,co17,eo17⟩:=Kd.R_slice HO268.out;subst eo17)|((with_reducible refine gate_builtin (b:=.append) (xs:=#[.tmp 15,.tmp 30]) rfl ?_);at_builtin;refine Kd.R_append_rows (Kd.int .u8) (w0:=w) w.heap.size rfl (.tmp 15) (.tmp 30) 38 5 (.int .u8 0) 1 rfl Try.underlying38 info5 rfl (by decide) (by omega) (.slice Ao12 y262.length co12) y262 y266 _ _ _ (λk_=>some k_≠(.slice Ao11 t259.length co11:Value).ownBlock/\some k_≠(.slice Ao17 y266.length co17:Value).ownBlock) (λ_=>False) rfl rfl ?aO ?aR (λ_ _ h=>h) (λ_ h=>h.elim) ?aF ?aB ?aS ?aL ?_;(case aR=>repeat(first|exact(Kd.R_reads' HO268.out).2.2|(with_reducible refine Kd.C_alloc ?_ _)|(with_reducible refine Kd.C_drewN ?_ _)|(with_reducible refine Kd.C_drew ?_)));(case aB=>exact z6_0);(case aF=>exact(λk_ hk=>⟨Kd.fresh' (Kd.R_lt z6_7) k_ hk,Kd.fresh' (Kd.R_lt (by(with_reducible repeat(first|apply Kd.R_alloc|apply Kd.R_drewN|apply Kd.R_drew));exact HO268.out)) k_ hk⟩));(case aO=>exact z6_10);(case aS=>exact(below_size z6_0));(case aL=>have:=LMc6.out;omega);intro v270 w16 ho hb hg hat;rw [<-Ny269.out] at ho;replace HO261:=U (Kd.R_after (ok:=(λk_=>some k_≠(.slice Ao17 y266.length co17:Value).ownBlock)) (by(with_reducible repeat(first|apply Kd.R_alloc|apply Kd.R_drewN|apply Kd.R_drew));exact Kd.R_mono HO261.out (λ_ hk=>⟨hk.2,hk.1.2⟩)) hg hat);replace HO268:=U (Kd.R_after (ok:=(λk_=>some k_≠(.slice Ao11 t259.length co11:Value).ownBlock)) (by(with_reducible repeat(first|apply Kd.R_alloc|apply Kd.R_drewN|apply Kd.R_drew));exact Kd.R_mono HO268.out (λ_ hk=>⟨hk.1.2,hk.2⟩)) hg hat);replace HB:=U (hb);have HO271:=U (ho);clear HO264;clear ho hb hg hat))
 go_ret
 exact ⟨_,z6_9,(by(with_reducible repeat(first|apply Kd.R_alloc|apply Kd.R_drewN|apply Kd.R_drew));exact Kd.R_mono HO271.out (λ_ hk=>trivial)),z6_0⟩
end Go.Proofs.Ytfhamdobagjakaa.PJo
