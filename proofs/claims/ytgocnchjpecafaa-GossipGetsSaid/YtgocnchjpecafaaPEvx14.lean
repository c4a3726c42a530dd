/- a part -/
import Derived.Test.YtgocnchjpecafaaPEvx12
namespace Go.Proofs.Ytgocnchjpecafaa.PEv
open Go.RowKit Go.Proofs.YtgocnchjpecafaaW.PrintWords Go.Proofs.YtgocnchjpecafaaW.PrintLast Go.Proofs.YtgocnchjpecafaaW.PrintMore
attribute [local go_sem] max2_int min2_int max_two min_two max_three min_three max_four min_four
set_option linter.unusedVariables false
set_option linter.unusedSimpArgs false
set_option maxHeartbeats 8000000
set_option maxRecDepth 100000
theorem z14_1 {P:Prop} (h:P:=by simp only [Act.put,List.setIfInBounds_toArray,List.set_cons_zero,List.set_cons_succ,i64_w,i32_w];rfl):P:=h
theorem z14_7 {P:Prop} (h:P:=by(try simp only [List.map_toArray,List.map_cons,List.map_nil]);first|done|(rw [show(l0.take ((ji12):Int).toNat).length=(ji12).toNat from(by rw [List.length_take];have h_:((ji12):Int)<=(l0.length:Int):=oD_ z10_1;omega)]<;>rfl)|(simp only [hji12];rfl)|rfl|(simp only [List.length_drop,List.length_take];rfl)):P:=h
theorem z14_8 {P:Prop} (h:P:=by first|exact Kd.R_nil _ _ _ _ _|exact Kd.N_nil _ _ _ _ _|exact Kd.V_nil _ _ _ _ _|exact Kd.Q_nil _ _ _ _ _|exact Kd.S_nil _ _ _ _ _):P:=h
theorem z14_9 {P:Prop} (h:P:=by(try simp only [List.map_toArray,List.map_cons,List.map_nil]);first|done|(rw [show(l0.drop (x7_2:Int).toNat).length=(l0.length - x7_2.toNat) from List.length_drop]<;>rfl)|rfl|(simp only [List.length_drop,List.length_take];rfl)):P:=h
theorem z14_10 {P:Prop} (h:P:=by(with_reducible repeat(first|apply Kd.S_alloc|apply Kd.S_drewN|apply Kd.S_drew));exact HO_8.out):P:=h
theorem z14_11 {P:Prop} (h:P:=by repeat(first|exact(Kd.C_below HR308.out HB.out)|(with_reducible refine Kd.C_alloc ?_ _)|(with_reducible refine Kd.C_drewN ?_ _)|(with_reducible refine Kd.C_drew ?_))):P:=h
theorem z14_12 {P:Prop} (h:P:=by repeat(first|exact(Kd.C_below HR324.out HB.out)|(with_reducible refine Kd.C_alloc ?_ _)|(with_reducible refine Kd.C_drewN ?_ _)|(with_reducible refine Kd.C_drew ?_))):P:=h
theorem z14_13 {P:Prop} (h:P:=by repeat(first|exact(Kd.R_reads' HO307.out).2.2|(with_reducible refine Kd.C_alloc ?_ _)|(with_reducible refine Kd.C_drewN ?_ _)|(with_reducible refine Kd.C_drew ?_))):P:=h
theorem z14_14 {P:Prop} (h:P:=by first|rfl|(simp [errW_none,errW_some]<;>rfl)|(simp only [<-hji12];first|rfl|(simp [errW_none,errW_some]<;>rfl))|(simp [*,errW_none,errW_some]<;>rfl)):P:=h
theorem z14_15 {P:Prop} (h:P:=by kernel_rfl):P:=h
theorem z14_16 {P:Prop} (h:P:=by first|exact Kd.S_nil _ _ _ _ _|exact Kd.N_nil _ _ _ _ _|exact Kd.V_nil _ _ _ _ _|exact Kd.Q_nil _ _ _ _ _|exact Kd.R_nil _ _ _ _ _):P:=h
theorem z14_17 {P:Prop} (h:P:=by show Act.put _ (some 45) _=_;simp only [Act.put,List.setIfInBounds_toArray,List.set_cons_zero,List.set_cons_succ,i64_w,i32_w];rfl):P:=h
theorem z14_18 {P:Prop} (h:P:=by show Act.put _ (some 49) _=_;simp only [Act.put,List.setIfInBounds_toArray,List.set_cons_zero,List.set_cons_succ,i64_w,i32_w];rfl):P:=h
theorem z14_19 {P:Prop} (h:P:=by first|omega|exact Nat.le_refl _):P:=h
mutual
def r02_GetNum.j0:Nat->List Int->Bool->Option (Int×Int)
 | 0,_,_=>none
 | k+1,x0,x25=>if x25=true then(some (0,0)) else(if 0<(x0.length:Int) then(r02_GetNum.l0 k x0 (wrap64 ((wrap64 (rd x0 0))+1)) 0 1) else(none))
def r02_GetNum.l0:Nat->List Int->Int->Int->Int->Option (Int×Int)
 | 0,_,_,_,_=>none
 | k+1,x0,x4,x5,x6=>if x6<x4 then(if 0<=x6 then(if x6<(x0.length:Int) then(r02_GetNum.l0 k x0 x4 (IntKind.u64.wrap ((IntKind.u64.wrap (x5*256))+(IntKind.u64.wrap (rd x0 x6)))) (wrap64 (x6+1))) else(none)) else(none)) else((r02_Num.f k x5).bind λt305=>(if 0<=x4 then(if x4<=(x0.length:Int) then((r02_Bytes.f k t305 (x0.take (x4:Int).toNat)).bind λt309=>(if t309=true then(some (x5,x4)) else(some (0,0)))) else(none)) else(none)))
end
def r02_GetNum.f (k:Nat) (l0:List Int):Option (Int×Int):=if (l0.length:Int)=0 then(r02_GetNum.j0 k l0 true) else(if 0<(l0.length:Int) then(if (rd l0 0) > 8 then(r02_GetNum.j0 k l0 true) else(r02_GetNum.j0 k l0 (decide ((l0.length:Int)<(wrap64 ((wrap64 (rd l0 0))+1)))))) else(none))
theorem r02_GetNum.calls (k:Nat) (A0:Option Addr) (c0:Nat) (l0:List Int) (r1:Int) (r2:Int) (w:World) (hr0:Kd.C (Kd.int .u8) w A0 l0.length l0) (hc0:l0.length<=c0) (h:r02_GetNum.f k l0=some (r1,r2)) :
  Calls Try.prog 87 #[.slice A0 l0.length c0] w λe w'=>e = .returned (.tuple #[.int .u64 r1,.int .i64 r2])/\Below w.heap.size w w':=by
 have HR0:=Aside0.mk hr0
 have HC0:=Aside0.mk hc0
 clear hr0 hc0
 have HB:=U (Below.refl w.heap.size w)
 have H:(if (l0.length:Int)=0 then(r02_GetNum.j0 k l0 true) else(if 0<(l0.length:Int) then(if (rd l0 0) > 8 then(r02_GetNum.j0 k l0 true) else(r02_GetNum.j0 k l0 (decide ((l0.length:Int)<(wrap64 ((wrap64 (rd l0 0))+1)))))) else(none)))=some (r1,r2):=h
 clear h
 have HC2:=Aside0.mk H
 clear H
 go_enter Try.func87,Try.ntmps87
 go_upto_region 1 with (fail)
 go_cut [25] (λv25 wc=>∃ (kq:Nat) (x25_1:Bool),v25 = .bool x25_1/\Aside0 (r02_GetNum.j0 kq l0 x25_1=some (r1,r2))/\Aside0 (kq<=k)/\Aside0 (Below w.heap.size w wc))
 case first =>
  have H:=HC2.out
  clear HC2
  by_cases c3:(l0.length:Int)=0
  ·rw [if_pos c3] at H
   have c3b0:((l0.length:Int) == 0)=true:=beq_iff_eq.mpr c3
   have c3b1:((l0.length:Int) != 0)=false:=bne_eq_false_iff_eq.mpr c3
   clear c3
   (first|rw [c3b0]|(simp only [i64_w,i32_w];rw [c3b0])|skip)
   have H':=Aside0.mk H
   clear H
   go_wp2
   go_meet
   case rel=>exact ⟨_,(true),z10_4,H',⟨z14_19⟩,⟨z10_0⟩⟩
  rw [if_neg c3] at H
  have c3b0:((l0.length:Int) == 0)=false:=beq_eq_false_iff_ne.mpr c3
  have c3b1:((l0.length:Int) != 0)=true:=bne_iff_ne.mpr c3
  have c3b2:¬ (l0=[]):=λh_=>c3 (by rw [h_];rfl)
  (first|rw [c3b0]|(simp only [i64_w,i32_w];rw [c3b0])|skip)
  by_cases c4:0<(l0.length:Int)
  rotate_left
  ·rw [if_neg c4] at H
   exact absurd H (by simp)
  rw [if_pos c4] at H
  have c4b0:decide (0<(l0.length:Int))=true:=dT_ c4
  have c4b1:decide (0<l0.length)=true:=dT_ (by omega)
  clear c4
  by_cases c5:(rd l0 0) > 8
  ·rw [if_pos c5] at H
   have c5b0:decide (8<(rd l0 0))=true:=dT_ c5
   clear c5
   have H':=Aside0.mk H
   clear H
   have p301:0<=(0:Int):=(by omega)
   have q301:0<(l0.length:Int):=oD_ z10_1
   obtain ⟨ad301,e301,hx301_0⟩:=Kd.at_int HR0.out 0 p301 q301
   cases e301
   have qi301:(0<l0.length)=True:=eq_true (by omega)
   (try rw [show((0:Int)).toNat=0 from rfl] at hx301_0)
   (try rw [Addr.add_zero'] at hx301_0)
   replace hx301_0:=(HB.out.cell (World.block_lt_of_cell? w _ hx301_0)).trans hx301_0
   replace p301:=eq_true p301
   replace q301:=eq_true q301
   go_wp2
   go_meet
   case rel=>exact ⟨_,(true),z10_4,H',⟨z14_19⟩,⟨z10_0⟩⟩
  rw [if_neg c5] at H
  have c5b0:decide (8<(rd l0 0))=false:=dF_ c5
  clear c5
  have H':=Aside0.mk H
  clear H
  have p301:0<=(0:Int):=(by omega)
  have q301:0<(l0.length:Int):=oD_ z10_1
  obtain ⟨ad301,e301,hx301_0⟩:=Kd.at_int HR0.out 0 p301 q301
  cases e301
  have qi301:(0<l0.length)=True:=eq_true (by omega)
  (try rw [show((0:Int)).toNat=0 from rfl] at hx301_0)
  (try rw [Addr.add_zero'] at hx301_0)
  replace hx301_0:=(HB.out.cell (World.block_lt_of_cell? w _ hx301_0)).trans hx301_0
  replace p301:=eq_true p301
  replace q301:=eq_true q301
  have p302:0<=(0:Int):=(by omega)
  have q302:0<(l0.length:Int):=oD_ z10_1
  obtain ⟨ad302,e302,hx302_0⟩:=Kd.at_int HR0.out 0 p302 q302
  obtain rfl:ad301=ad302:=(by injection e302)
  have qi302:(0<l0.length)=True:=eq_true (by omega)
  (try rw [show((0:Int)).toNat=0 from rfl] at hx302_0)
  (try rw [Addr.add_zero'] at hx302_0)
  replace hx302_0:=(HB.out.cell (World.block_lt_of_cell? w _ hx302_0)).trans hx302_0
  replace p302:=eq_true p302
  replace q302:=eq_true q302
  go_wp2
  go_meet
  case rel=>exact ⟨_,(decide ((l0.length:Int)<(wrap64 ((wrap64 (rd l0 0))+1)))),z10_4,H',⟨z14_19⟩,⟨z10_0⟩⟩
 case rest =>
 clear HC2
 try clear p2
 try clear c3
 try clear c3b0
 try clear c3b1
 try clear c3b2
 try clear p3
 try clear q3
 try clear hx3
 try clear qi3
 try clear c4
 try clear c4b0
 try clear c4b1
 try clear c5
 try clear c5b0
 try clear hx301_0
 try clear hx302_0
 try clear p301
 try clear p302
 try clear q301
 try clear q302
 obtain ⟨kq,x25_1,rfl,HA,HJ1,HB⟩:=hcut
 cases kq with
 | zero=>exact absurd HA.out (by simp [r02_GetNum.j0])
 | succ kj1 =>
 have H:=HA.out
 clear HA
 simp only [r02_GetNum.j0] at H
 by_cases c6:x25_1=true
 ·subst c6
  have H1:(some (0,0))=some (r1,r2):=by rw [if_pos rfl] at H;exact H
  clear H
  have H:=H1
  clear H1
  simp only [Option.some.injEq,Prod.mk.injEq] at H
  obtain ⟨rfl,rfl⟩:=H
  go_wp2
  go_ret2
  exact ⟨z10_8,z10_0⟩
 replace c6:=Bool.eq_false_iff.mpr c6
 subst c6
 have H1:(if 0<(l0.length:Int) then(r02_GetNum.l0 kj1 l0 (wrap64 ((wrap64 (rd l0 0))+1)) 0 1) else(none))=some (r1,r2):=by rw [if_neg (show ¬ (false=true) by decide)] at H;exact H
 clear H
 have H:=H1
 clear H1
 by_cases c7:0<(l0.length:Int)
 rotate_left
 ·rw [if_neg c7] at H
  exact absurd H (by simp)
 rw [if_pos c7] at H
 have c7b0:decide (0<(l0.length:Int))=true:=dT_ c7
 have c7b1:decide (0<l0.length)=true:=dT_ (by omega)
 clear c7
 have H':=Aside0.mk H
 clear H
 have p303:0<=(0:Int):=(by omega)
 have q303:0<(l0.length:Int):=oD_ z10_1
 obtain ⟨ad303,e303,hx303_0⟩:=Kd.at_int HR0.out 0 p303 q303
 cases e303
 have qi303:(0<l0.length)=True:=eq_true (by omega)
 (try rw [show((0:Int)).toNat=0 from rfl] at hx303_0)
 (try rw [Addr.add_zero'] at hx303_0)
 replace hx303_0:=(HB.out.cell (World.block_lt_of_cell? w _ hx303_0)).trans hx303_0
 replace p303:=eq_true p303
 replace q303:=eq_true q303
 go_wp2
 go_loopg [5,6] kj1 (λkq v5 v6 w'=>∃ (x5_2:Int) (x6_2:Int),v5 = .int .u64 x5_2/\v6 = .int .i64 x6_2/\Aside0 (r02_GetNum.l0 kq l0 (wrap64 ((wrap64 (rd l0 0))+1)) x5_2 x6_2=some (r1,r2))/\Aside0 (kq<=kj1)/\Aside0 (Below w.heap.size w w'))
 case atStart=>exact ⟨(0),(1),z10_4,z10_4,H',⟨Nat.le_refl _⟩,⟨z10_0⟩⟩
 case round =>
 clear H'
 try clear p2
 try clear c3
 try clear c3b0
 try clear c3b1
 try clear c3b2
 try clear p3
 try clear q3
 try clear hx3
 try clear qi3
 try clear c4
 try clear c4b0
 try clear c4b1
 try clear c5
 try clear c5b0
 try clear c6
 try clear p6
 try clear c7
 try clear c7b0
 try clear c7b1
 try clear hx301_0
 try clear hx302_0
 try clear hx303_0
 try clear p2
 try clear p3
 try clear p301
 try clear p302
 try clear p303
 try clear q3
 try clear q301
 try clear q302
 try clear q303
 obtain ⟨x5_2,x6_2,rfl,rfl,HA,HK2,HB⟩:=hrel
 cases gk with
 | zero=>exact absurd HA.out (by simp [r02_GetNum.l0])
 | succ k2 =>
 have H:=HA.out
 clear HA
 simp only [r02_GetNum.l0] at H
 by_cases c8:x6_2<(wrap64 ((wrap64 (rd l0 0))+1))
 ·rw [if_pos c8] at H
  have c8b0:decide (x6_2<(wrap64 ((wrap64 (rd l0 0))+1)))=true:=dT_ c8
  clear c8
  by_cases c9:0<=x6_2
  rotate_left
  ·rw [if_neg c9] at H
   exact absurd H (by simp)
  rw [if_pos c9] at H
  have c9b0:decide (0<=x6_2)=true:=dT_ c9
  clear c9
  by_cases c10:x6_2<(l0.length:Int)
  rotate_left
  ·rw [if_neg c10] at H
   exact absurd H (by simp)
  rw [if_pos c10] at H
  have c10b0:decide (x6_2<(l0.length:Int))=true:=dT_ c10
  clear c10
  have H':=Aside0.mk H
  clear H
  have p304:0<=(x6_2:Int):=oD_ z10_1
  have q304:x6_2<(l0.length:Int):=oD_ z10_1
  obtain ⟨ad304,e304,hx304_0⟩:=Kd.at_int HR0.out x6_2 p304 q304
  obtain rfl:ad303=ad304:=(by injection e304)
  replace hx304_0:=(HB.out.cell (World.block_lt_of_cell? w _ hx304_0)).trans hx304_0
  replace p304:=eq_true p304
  replace q304:=eq_true q304
  go_wp2
  go_roundg k2
  case measure=>have:=HJ1.out;have:=HK2.out;omega
  case rel=>exact ⟨(IntKind.u64.wrap ((IntKind.u64.wrap (x5_2*256))+(IntKind.u64.wrap (rd l0 x6_2)))),(wrap64 (x6_2+1)),z10_4,z10_4,H',⟨(by have:=HJ1.out;have:=HK2.out;omega)⟩,⟨z10_0⟩⟩
 rw [if_neg c8] at H
 have c8b0:decide (x6_2<(wrap64 ((wrap64 (rd l0 0))+1)))=false:=dF_ c8
 clear c8
 replace H:=oB_ H
 obtain ⟨t305,A110,H⟩:=H
 replace H:(if 0<=(wrap64 ((wrap64 (rd l0 0))+1)) then(if (wrap64 ((wrap64 (rd l0 0))+1))<=(l0.length:Int) then((r02_Bytes.f k2 t305 (l0.take ((wrap64 ((wrap64 (rd l0 0))+1)):Int).toNat)).bind λt309=>(if t309=true then(some (x5_2,(wrap64 ((wrap64 (rd l0 0))+1)))) else(some (0,0)))) else(none)) else(none))=some (r1,r2):=H
 have A11:=Aside0.mk A110
 clear A110
 obtain ⟨ji12,hji12⟩:∃ j_:Int,(wrap64 ((wrap64 (rd l0 0))+1))=j_:=⟨_,rfl⟩
 replace H:(if 0<=(ji12) then(if (ji12)<=(l0.length:Int) then((r02_Bytes.f k2 t305 (l0.take ((ji12):Int).toNat)).bind λt309=>(if t309=true then(some (x5_2,(ji12))) else(some (0,0)))) else(none)) else(none))=some (r1,r2):=by first|(rw [hji12] at H;exact H)|(simp only [hji12] at H ⊢;exact H)
 (try rw [hji12] at c8b0)
 (try rw [hji12] at A11)
 have hji12w:(IntKind.i64.wrap ((wrap64 (rd l0 0))+1))=ji12:=(i64_w _).trans hji12
 (try rw [hji12] at c3b0)
 (try rw [hji12] at c3b0)
 (try rw [hji12] at c4b0)
 (try rw [hji12] at c5b0)
 (try rw [hji12] at c5b0)
 (try rw [hji12] at c7b0)
 (try rw [hji12] at c8b0)
 (try rw [hji12] at c8b0)
 by_cases c13:0<=(ji12)
 rotate_left
 ·rw [if_neg c13] at H
  exact absurd H (by simp)
 rw [if_pos c13] at H
 have c13b0:=eq_true c13
 have c13b1:decide (0<=(ji12))=true:=dT_ c13
 clear c13
 by_cases c14:(ji12)<=(l0.length:Int)
 rotate_left
 ·rw [if_neg c14] at H
  exact absurd H (by simp)
 rw [if_pos c14] at H
 have c14b0:=eq_true c14
 have c14b1:decide ((ji12)<=(l0.length:Int))=true:=dT_ c14
 clear c14
 replace H:=oB_ H
 obtain ⟨t309,A150,H⟩:=H
 replace H:(if t309=true then(some (x5_2,(ji12))) else(some (0,0)))=some (r1,r2):=H
 have A15:=Aside0.mk A150
 clear A150
 by_cases c16:t309=true
 ·subst c16
  have H1:(some (x5_2,(ji12)))=some (r1,r2):=by rw [if_pos rfl] at H;exact H
  clear H
  have H:=H1
  clear H1
  simp only [Option.some.injEq,Prod.mk.injEq] at H
  obtain ⟨rfl,rfl⟩:=H
  try go_wp2
  have n0_:=U (below_drew1 HB.out)
  clear HB
  have HB:=n0_
  clear n0_
  obtain ⟨i018,hi018,_,hsz18,_⟩:=info_parts info5
  obtain ⟨hcut18,hA18,hC18⟩:=print_take_of (P:=Try.prog) (Value.int .u8) 0 22 5 .i64 Try.underlying22 hi018 hsz18 (some ad303) c0 l0 (ji12) (oD_ z10_1) (oD_ z10_1) HC0.out
  have HR308:=U (Kd.C_of_reads (h1:=λ_=>rfl) (hA18 _ (Kd.reads_of_C HR0.out)))
  have HC308:=Aside0.mk hC18
  clear hA18 hC18 hi018 hsz18
  refine start_ (n:=7) (S:=λw'=>True) (ds:=[]) #[J,J,J,J,J,J,J] z14_15 rfl rfl trivial (λhHeld=>?_)
  generalize wr.drew=w17 at HB HR308 hHeld ⊢
  refine pure_ (i:=0) (N:=some 44) (v:=?_) (a':=?_) #[Y,J,J,J,J,J,J] rfl rfl z14_15 (λ_ _ _ h=>h) (Or.inl ⟨(by rfl),?_⟩) ?_ ?_
  rotate_left
  ·intro w'
   go_simp
   with_reducible rfl
  rotate_left
  ·exact z14_1
  refine pure_ (i:=2) (N:=some 46) (v:=?_) (a':=?_) #[Y,J,Y,J,J,J,J] rfl rfl z14_15 (λ_ _ _ h=>h) (Or.inl ⟨(by rfl),?_⟩) ?_ ?_
  rotate_left
  ·intro w'
   go_simp
   with_reducible rfl
  rotate_left
  ·exact z14_1
  refine pure_ (i:=3) (N:=some 47) (v:=?_) (a':=?_) #[Y,J,Y,Y,J,J,J] rfl rfl z14_15 (λ_ _ _ h=>h) (Or.inl ⟨(by rfl),?_⟩) ?_ ?_
  rotate_left
  ·intro w'
   go_simp
   with_reducible rfl
  rotate_left
  ·exact z14_1
  refine pure_ (i:=4) (N:=some 48) (v:=?_) (a':=?_) #[Y,J,Y,Y,Y,J,J] rfl rfl z14_15 (λ_ _ _ h=>h) (Or.inl ⟨(by rfl),?_⟩) ?_ ?_
  rotate_left
  ·intro w'
   go_simp
   with_reducible rfl
  rotate_left
  ·exact z14_1
  refine one_ (i:=1) (N:=some 45) #[Y,Y,Y,Y,Y,J,J] rfl rfl z14_15 (by decide) (λK hK=>?_)
  refine goes_ Try.func98 z14_15 rfl #[.int .u64 x5_2] (by rfl) rfl rfl z10_2 ?_
  with_reducible refine(r02_Num.calls k2 x5_2 t305 _ A11.out).mono ?_
  rintro e w19 ⟨v306,rfl,ho0,hb⟩
  refine ⟨_,rfl,?_⟩
  have n0_:=U (Kd.R_lower ho0 (below_size z10_0))
  have n1_:=U (below_step z10_0 hb)
  clear HB
  have HO307:=n0_
  have HB:=n1_
  clear n0_ n1_
  (try clear hb)
  (try clear hb2)
  (try clear hk)
  (try clear hi)
  (try clear ho0)
  obtain ⟨Ao20,co20,eo20⟩:=Kd.R_slice HO307.out
  (first|subst eo20|(injection eo20 with f1_ f2_ f3_;have f4_:=f1_.symm;have f5_:=f3_.symm;clear f1_ f2_ f3_;subst f4_;subst f5_))
  refine hK.out _ _ trivial (λhHeld=>?_)
  clear hK K
  refine norm_ (a':=?_) ?_ ?_
  rotate_left
  ·exact z14_17
  refine one_ (i:=5) (N:=some 49) #[Y,Y,Y,Y,Y,Y,J] rfl rfl z14_15 (by decide) (λK hK=>?_)
  refine goes_ Try.func23 z14_15 rfl #[.slice Ao20 t305.length co20,.slice (some ad303) (l0.take ((ji12):Int).toNat).length c0] (by rfl) rfl rfl z14_7 ?_
  with_reducible refine(r02_Bytes.calls k2 _ _ t305 _ _ (l0.take ((ji12):Int).toNat) true _ ?side1 ?side2 ?side3 ?side4 A15.out).mono ?_
  (case side1=>exact z14_13)
  (case side2=>exact(Kd.R_reads' HO307.out).2.1)
  (case side3=>exact z14_11)
  (case side4=>exact HC308.out)
  rintro e w' ⟨rfl,⟨nd,rfl⟩⟩
  refine ⟨_,rfl,?_⟩
  refine hK.out _ _ trivial (λhHeld=>?_)
  clear hK K
  refine norm_ (a':=?_) ?_ ?_
  rotate_left
  ·exact z14_18
  refine pure_ (i:=6) (N:=some 50) (v:=?_) (a':=?_) #[Y,Y,Y,Y,Y,Y,Y] rfl rfl z14_15 (λ_ _ _ h=>h) (Or.inl ⟨(by rfl),?_⟩) ?_ ?_
  rotate_left
  ·intro w'
   go_simp
   with_reducible rfl
  rotate_left
  ·exact z14_1
  refine done_ z14_15 ?_
  try go_wp2
  go_ret2
  exact ⟨z14_14,z10_0⟩
 replace c16:=Bool.eq_false_iff.mpr c16
 subst c16
 have H1:(some (0,0))=some (r1,r2):=by rw [if_neg (show ¬ (false=true) by decide)] at H;exact H
 clear H
 have H:=H1
 clear H1
 simp only [Option.some.injEq,Prod.mk.injEq] at H
 obtain ⟨rfl,rfl⟩:=H
 try go_wp2
 have n0_:=U (below_drew1 HB.out)
 clear HB
 have HB:=n0_
 clear n0_
 obtain ⟨i022,hi022,_,hsz22,_⟩:=info_parts info5
 obtain ⟨hcut22,hA22,hC22⟩:=print_take_of (P:=Try.prog) (Value.int .u8) 0 22 5 .i64 Try.underlying22 hi022 hsz22 (some ad303) c0 l0 (ji12) (oD_ z10_1) (oD_ z10_1) HC0.out
 have HR308:=U (Kd.C_of_reads (h1:=λ_=>rfl) (hA22 _ (Kd.reads_of_C HR0.out)))
 have HC308:=Aside0.mk hC22
 clear hA22 hC22 hi022 hsz22
 refine start_ (n:=7) (S:=λw'=>True) (ds:=[]) #[J,J,J,J,J,J,J] z14_15 rfl rfl trivial (λhHeld=>?_)
 generalize wr.drew=w21 at HB HR308 hHeld ⊢
 refine pure_ (i:=0) (N:=some 44) (v:=?_) (a':=?_) #[Y,J,J,J,J,J,J] rfl rfl z14_15 (λ_ _ _ h=>h) (Or.inl ⟨(by rfl),?_⟩) ?_ ?_
 rotate_left
 ·intro w'
  go_simp
  with_reducible rfl
 rotate_left
 ·exact z14_1
 refine pure_ (i:=2) (N:=some 46) (v:=?_) (a':=?_) #[Y,J,Y,J,J,J,J] rfl rfl z14_15 (λ_ _ _ h=>h) (Or.inl ⟨(by rfl),?_⟩) ?_ ?_
 rotate_left
 ·intro w'
  go_simp
  with_reducible rfl
 rotate_left
 ·exact z14_1
 refine pure_ (i:=3) (N:=some 47) (v:=?_) (a':=?_) #[Y,J,Y,Y,J,J,J] rfl rfl z14_15 (λ_ _ _ h=>h) (Or.inl ⟨(by rfl),?_⟩) ?_ ?_
 rotate_left
 ·intro w'
  go_simp
  with_reducible rfl
 rotate_left
 ·exact z14_1
 refine pure_ (i:=4) (N:=some 48) (v:=?_) (a':=?_) #[Y,J,Y,Y,Y,J,J] rfl rfl z14_15 (λ_ _ _ h=>h) (Or.inl ⟨(by rfl),?_⟩) ?_ ?_
 rotate_left
 ·intro w'
  go_simp
  with_reducible rfl
 rotate_left
 ·exact z14_1
 refine one_ (i:=1) (N:=some 45) #[Y,Y,Y,Y,Y,J,J] rfl rfl z14_15 (by decide) (λK hK=>?_)
 refine goes_ Try.func98 z14_15 rfl #[.int .u64 x5_2] (by rfl) rfl rfl z10_2 ?_
 with_reducible refine(r02_Num.calls k2 x5_2 t305 _ A11.out).mono ?_
 rintro e w23 ⟨v306,rfl,ho0,hb⟩
 refine ⟨_,rfl,?_⟩
 have n0_:=U (Kd.R_lower ho0 (below_size z10_0))
 have n1_:=U (below_step z10_0 hb)
 clear HB
 have HO307:=n0_
 have HB:=n1_
 clear n0_ n1_
 (try clear hb)
 (try clear hb2)
 (try clear hk)
 (try clear hi)
 (try clear ho0)
 obtain ⟨Ao24,co24,eo24⟩:=Kd.R_slice HO307.out
 (first|subst eo24|(injection eo24 with f1_ f2_ f3_;have f4_:=f1_.symm;have f5_:=f3_.symm;clear f1_ f2_ f3_;subst f4_;subst f5_))
 refine hK.out _ _ trivial (λhHeld=>?_)
 clear hK K
 refine norm_ (a':=?_) ?_ ?_
 rotate_left
 ·exact z14_17
 refine one_ (i:=5) (N:=some 49) #[Y,Y,Y,Y,Y,Y,J] rfl rfl z14_15 (by decide) (λK hK=>?_)
 refine goes_ Try.func23 z14_15 rfl #[.slice Ao24 t305.length co24,.slice (some ad303) (l0.take ((ji12):Int).toNat).length c0] (by rfl) rfl rfl z14_7 ?_
 with_reducible refine(r02_Bytes.calls k2 _ _ t305 _ _ (l0.take ((ji12):Int).toNat) false _ ?side1 ?side2 ?side3 ?side4 A15.out).mono ?_
 (case side1=>exact z14_13)
 (case side2=>exact(Kd.R_reads' HO307.out).2.1)
 (case side3=>exact z14_11)
 (case side4=>exact HC308.out)
 rintro e w' ⟨rfl,⟨nd,rfl⟩⟩
 refine ⟨_,rfl,?_⟩
 refine hK.out _ _ trivial (λhHeld=>?_)
 clear hK K
 refine norm_ (a':=?_) ?_ ?_
 rotate_left
 ·exact z14_18
 refine pure_ (i:=6) (N:=some 50) (v:=?_) (a':=?_) #[Y,Y,Y,Y,Y,Y,Y] rfl rfl z14_15 (λ_ _ _ h=>h) (Or.inl ⟨(by rfl),?_⟩) ?_ ?_
 rotate_left
 ·intro w'
  go_simp
  with_reducible rfl
 rotate_left
 ·exact z14_1
 refine done_ z14_15 ?_
 try go_wp2
 go_ret2
 exact ⟨z14_14,z10_0⟩
def r02_GetText.f (k:Nat) (l0:List Int):Option (List Int×Int):=(r02_GetNum.f k l0).bind λbt310=>(if bt310.2=0 then(some (([]:List Int),0)) else(if bt310.1 > 65536 then(some (([]:List Int),0)) else(if (wrap64 (bt310.2+(wrap64 (bt310.1)))) > (l0.length:Int) then(some (([]:List Int),0)) else((some (([]:List Int):List Int)).bind λy312=>(if 0<=bt310.2 then(if bt310.2<=(wrap64 (bt310.2+(wrap64 (bt310.1)))) then(if (wrap64 (bt310.2+(wrap64 (bt310.1))))<=(l0.length:Int) then(if y312.length+((l0.take ((wrap64 (bt310.2+(wrap64 (bt310.1)))):Int).toNat).drop (bt310.2:Int).toNat).length<140737488355328 then(some ((y312++((l0.take ((wrap64 (bt310.2+(wrap64 (bt310.1)))):Int).toNat).drop (bt310.2:Int).toNat)),wrap64 (bt310.2+(wrap64 (bt310.1))))) else(none)) else(none)) else(none)) else(none))))))
theorem r02_GetText.calls (k:Nat) (A0:Option Addr) (c0:Nat) (l0:List Int) (r1:List Int) (r2:Int) (w:World) (hr0:Kd.C (Kd.int .u8) w A0 l0.length l0) (hc0:l0.length<=c0) (h:r02_GetText.f k l0=some (r1,r2)) :
  Calls Try.prog 88 #[.slice A0 l0.length c0] w λe w'=>∃ v0_:Value,e = .returned (.tuple #[v0_,.int .i64 r2])/\Kd.R (Kd.int .u8) 5 w' w.heap.size (λ_=>True) v0_ r1/\Below w.heap.size w w':=by
 have HR0:=Aside0.mk hr0
 have HC0:=Aside0.mk hc0
 clear hr0 hc0
 have HB:=U (Below.refl w.heap.size w)
 have H:((r02_GetNum.f k l0).bind λbt310=>(if bt310.2=0 then(some (([]:List Int),0)) else(if bt310.1 > 65536 then(some (([]:List Int),0)) else(if (wrap64 (bt310.2+(wrap64 (bt310.1)))) > (l0.length:Int) then(some (([]:List Int),0)) else((some (([]:List Int):List Int)).bind λy312=>(if 0<=bt310.2 then(if bt310.2<=(wrap64 (bt310.2+(wrap64 (bt310.1)))) then(if (wrap64 (bt310.2+(wrap64 (bt310.1))))<=(l0.length:Int) then(if y312.length+((l0.take ((wrap64 (bt310.2+(wrap64 (bt310.1)))):Int).toNat).drop (bt310.2:Int).toNat).length<140737488355328 then(some ((y312++((l0.take ((wrap64 (bt310.2+(wrap64 (bt310.1)))):Int).toNat).drop (bt310.2:Int).toNat)),wrap64 (bt310.2+(wrap64 (bt310.1))))) else(none)) else(none)) else(none)) else(none)))))))=some (r1,r2):=h
 clear h
 replace H:=oB_ H
 obtain ⟨⟨t310,t311⟩,A20,H⟩:=H
 replace H:(if t311=0 then(some (([]:List Int),0)) else(if t310 > 65536 then(some (([]:List Int),0)) else(if (wrap64 (t311+(wrap64 (t310)))) > (l0.length:Int) then(some (([]:List Int),0)) else((some (([]:List Int):List Int)).bind λy312=>(if 0<=t311 then(if t311<=(wrap64 (t311+(wrap64 (t310)))) then(if (wrap64 (t311+(wrap64 (t310))))<=(l0.length:Int) then(if y312.length+((l0.take ((wrap64 (t311+(wrap64 (t310)))):Int).toNat).drop (t311:Int).toNat).length<140737488355328 then(some ((y312++((l0.take ((wrap64 (t311+(wrap64 (t310)))):Int).toNat).drop (t311:Int).toNat)),wrap64 (t311+(wrap64 (t310))))) else(none)) else(none)) else(none)) else(none))))))=some (r1,r2):=H
 have A2:=Aside0.mk A20
 clear A20
 by_cases c3:t311=0
 ·rw [if_pos c3] at H
  have c3b0:(t311 == 0)=true:=beq_iff_eq.mpr c3
  have c3b1:(t311 != 0)=false:=bne_eq_false_iff_eq.mpr c3
  clear c3
  simp only [Option.some.injEq,Prod.mk.injEq] at H
  obtain ⟨rfl,rfl⟩:=H
  go_enter Try.func88,Try.ntmps88
  go_wp2_with (first|((with_reducible refine gate_callee (f:=87) rfl ?_);refine goesL_ (some 8) rfl rfl Try.func87 z14_15 rfl #[.slice A0 l0.length c0] rfl z10_2 ?_;(with_reducible refine(r02_GetNum.calls k _ _ l0 t310 t311 _ ?side1 ?side2 A2.out).mono ?_);(case side1=>exact z10_6);(case side2=>exact HC0.out);rintro e w4 ⟨rfl,hb⟩;refine ⟨_,rfl,?_⟩;replace HB:=U (below_step z10_0 hb);(try clear hb);(try clear hb2);(try clear hk);(try clear hi)))
  go_ret2
  exact ⟨_,z10_8,z14_8,z10_0⟩
 rw [if_neg c3] at H
 have c3b0:(t311 == 0)=false:=beq_eq_false_iff_ne.mpr c3
 have c3b1:(t311 != 0)=true:=bne_iff_ne.mpr c3
 by_cases c5:t310 > 65536
 ·rw [if_pos c5] at H
  have c5b0:decide (65536<t310)=true:=dT_ c5
  clear c5
  simp only [Option.some.injEq,Prod.mk.injEq] at H
  obtain ⟨rfl,rfl⟩:=H
  go_enter Try.func88,Try.ntmps88
  go_wp2_with (first|((with_reducible refine gate_callee (f:=87) rfl ?_);refine goesL_ (some 8) rfl rfl Try.func87 z14_15 rfl #[.slice A0 l0.length c0] rfl z10_2 ?_;(with_reducible refine(r02_GetNum.calls k _ _ l0 t310 t311 _ ?side1 ?side2 A2.out).mono ?_);(case side1=>exact z10_6);(case side2=>exact HC0.out);rintro e w6 ⟨rfl,hb⟩;refine ⟨_,rfl,?_⟩;replace HB:=U (below_step z10_0 hb);(try clear hb);(try clear hb2);(try clear hk);(try clear hi)))
  go_ret2
  exact ⟨_,z10_8,z14_8,z10_0⟩
 rw [if_neg c5] at H
 have c5b0:decide (65536<t310)=false:=dF_ c5
 clear c5
 by_cases c7:(wrap64 (t311+(wrap64 (t310)))) > (l0.length:Int)
 ·rw [if_pos c7] at H
  have c7b0:decide ((l0.length:Int)<(wrap64 (t311+(wrap64 (t310)))))=true:=dT_ c7
  clear c7
  simp only [Option.some.injEq,Prod.mk.injEq] at H
  obtain ⟨rfl,rfl⟩:=H
  go_enter Try.func88,Try.ntmps88
  go_wp2_with (first|((with_reducible refine gate_callee (f:=87) rfl ?_);refine goesL_ (some 8) rfl rfl Try.func87 z14_15 rfl #[.slice A0 l0.length c0] rfl z10_2 ?_;(with_reducible refine(r02_GetNum.calls k _ _ l0 t310 t311 _ ?side1 ?side2 A2.out).mono ?_);(case side1=>exact z10_6);(case side2=>exact HC0.out);rintro e w8 ⟨rfl,hb⟩;refine ⟨_,rfl,?_⟩;replace HB:=U (below_step z10_0 hb);(try clear hb);(try clear hb2);(try clear hk);(try clear hi)))
  go_ret2
  exact ⟨_,z10_8,z14_8,z10_0⟩
 rw [if_neg c7] at H
 have c7b0:decide ((l0.length:Int)<(wrap64 (t311+(wrap64 (t310)))))=false:=dF_ c7
 clear c7
 obtain ⟨y312,hy312⟩:∃ y_:List Int,y_=(([]:List Int)):=⟨_,rfl⟩
 replace H:(if 0<=t311 then(if t311<=(wrap64 (t311+(wrap64 (t310)))) then(if (wrap64 (t311+(wrap64 (t310))))<=(l0.length:Int) then(if y312.length+((l0.take ((wrap64 (t311+(wrap64 (t310)))):Int).toNat).drop (t311:Int).toNat).length<140737488355328 then(some ((y312++((l0.take ((wrap64 (t311+(wrap64 (t310)))):Int).toNat).drop (t311:Int).toNat)),wrap64 (t311+(wrap64 (t310))))) else(none)) else(none)) else(none)) else(none))=some (r1,r2):=by first|(rw [hy312];with_reducible exact H)|(have H2_:=(Option.bind_some _ _).symm.trans H;rw [hy312];with_reducible exact H2_)|(have H2_:=(Option.bind_some _ _).symm.trans H;with_reducible exact H2_)|with_reducible exact H|(rw [hy312];exact H)|exact H
 have Ny312:=Aside0.mk hy312
 clear hy312
 by_cases c9:0<=t311
 rotate_left
 ·rw [if_neg c9] at H
  exact absurd H (by simp)
 rw [if_pos c9] at H
 have c9b0:=eq_true c9
 have c9b1:decide (0<=t311)=true:=dT_ c9
 clear c9
 by_cases c10:t311<=(wrap64 (t311+(wrap64 (t310))))
 rotate_left
 ·rw [if_neg c10] at H
  exact absurd H (by simp)
 rw [if_pos c10] at H
 have c10b0:=eq_true c10
 have c10b1:decide (t311<=(wrap64 (t311+(wrap64 (t310)))))=true:=dT_ c10
 by_cases c11:(wrap64 (t311+(wrap64 (t310))))<=(l0.length:Int)
 rotate_left
 ·rw [if_neg c11] at H
  exact absurd H (by simp)
 rw [if_pos c11] at H
 have c11b0:=eq_true c11
 have c11b1:decide ((wrap64 (t311+(wrap64 (t310))))<=(l0.length:Int))=true:=dT_ c11
 by_cases c12:y312.length+((l0.take ((wrap64 (t311+(wrap64 (t310)))):Int).toNat).drop (t311:Int).toNat).length<140737488355328
 rotate_left
 ·rw [if_neg c12] at H
  exact absurd H (by simp)
 rw [if_pos c12] at H
 have LMc12:=Aside0.mk c12
 clear c12
 obtain ⟨y316,hy316⟩:∃ y_:List Int,y_=(y312++((l0.take ((wrap64 (t311+(wrap64 (t310)))):Int).toNat).drop (t311:Int).toNat)):=⟨_,rfl⟩
 replace H:(some (y316,wrap64 (t311+(wrap64 (t310)))))=some (r1,r2):=by first|(rw [hy316];with_reducible exact H)|(have H2_:=(Option.bind_some _ _).symm.trans H;rw [hy316];with_reducible exact H2_)|(have H2_:=(Option.bind_some _ _).symm.trans H;with_reducible exact H2_)|with_reducible exact H|(rw [hy316];exact H)|exact H
 have Ny316:=Aside0.mk hy316
 clear hy316
 simp only [Option.some.injEq,Prod.mk.injEq] at H
 obtain ⟨rfl,rfl⟩:=H
 go_enter Try.func88,Try.ntmps88
 go_wp2_with (first|((with_reducible refine gate_callee (f:=87) rfl ?_);refine goesL_ (some 8) rfl rfl Try.func87 z14_15 rfl #[.slice A0 l0.length c0] rfl z10_2 ?_;(with_reducible refine(r02_GetNum.calls k _ _ l0 t310 t311 _ ?side1 ?side2 A2.out).mono ?_);(case side1=>exact z10_6);(case side2=>exact HC0.out);rintro e w13 ⟨rfl,hb⟩;refine ⟨_,rfl,?_⟩;replace HB:=U (below_step z10_0 hb);(try clear hb);(try clear hb2);(try clear hk);(try clear hi))|((with_reducible refine gate_dst (N:=26) rfl ?_);(try(refine gate_guard (by rfl) ?_;dsimp only));refine Kd.R_lit (Kd.int .u8) _ 5 ?hg (N:=26) ?hd (xs:=([]:List Int)) (inner:=[]) (ok:=λ_=>True) (okp:=λ_=>True) ?hr ?hp (λ_ hk=>hk) trivial (Below.refl _ _) (Nat.le_refl _) (by simp) ?_;(case hd=>rfl);(case hg=>rfl);(case hr=>first|(go_simp;done)|(go_simp;rfl));(case hp=>exact(Reps.none _ _));intro v313 w14 ho15 hb hg_ hnew_;clear hg_ hnew_;(first|rw [<-Ny312.out] at ho15|(simp only [Int.reduceToNat] at ho15;rw [<-Ny312.out] at ho15));have HO314:=U (Kd.R_lower ho15 (below_size z10_0));replace HB:=U (below_step z10_0 hb);clear hb ho15;obtain ⟨i016,hi016,_,hsz16,_⟩:=info_parts info5;obtain ⟨A16,hcut16,hA16,hC16⟩:=print_mid_of (P:=Try.prog) (Value.int .u8) 0 22 5 .i64 .i64 Try.underlying22 hi016 hsz16 A0 c0 l0 t311 (wrap64 (t311+(wrap64 (t310)))) (oD_ z10_1) (by first|omega|exact oD_ z10_1) (oD_ z10_1) HC0.out;have HR315:=U (Kd.C_of_reads (h1:=λ_=>rfl) (hA16 _ (Kd.reads_of_C HR0.out)));have HC315:=Aside0.mk hC16;clear hA16 hC16 hi016 hsz16)|((with_reducible refine gate_builtin (b:=.append) (xs:=#[.tmp 26,.tmp 33]) rfl ?_);(try(refine gate_guard (by rfl) ?_;dsimp only));at_builtin;refine Kd.R_append_rows (Kd.int .u8) (w0:=w) w.heap.size rfl (.tmp 26) (.tmp 33) 22 5 (.int .u8 0) 1 rfl Try.underlying22 info5 rfl (by decide) (by omega) v313 y312 ((l0.take ((wrap64 (t311+(wrap64 (t310)))):Int).toNat).drop (t311:Int).toNat) _ _ _ (λ_=>True) (λ_=>False) rfl rfl ?aO ?aR (λ_ _ h=>h) (λ_ h=>h.elim) ?aF ?aB ?aS ?aL ?_;(case aR=>first|(rw [<-show((l0.take ((wrap64 (t311+(wrap64 (t310)))):Int).toNat).drop (t311:Int).toNat).length=((wrap64 (t311+(wrap64 (t310)))).toNat - t311.toNat) from(by rw [List.length_drop,List.length_take];have h_:((wrap64 (t311+(wrap64 (t310)))):Int)<=(l0.length:Int):=oD_ z10_1;omega)];repeat(first|exact(Kd.C_below HR315.out HB.out)|(with_reducible refine Kd.C_alloc ?_ _)|(with_reducible refine Kd.C_drewN ?_ _)|(with_reducible refine Kd.C_drew ?_)))|(repeat(first|exact(Kd.C_below HR315.out HB.out)|(with_reducible refine Kd.C_alloc ?_ _)|(with_reducible refine Kd.C_drewN ?_ _)|(with_reducible refine Kd.C_drew ?_))));(case aB=>exact z10_0);(case aF=>exact(λ_ _=>trivial));(case aO=>exact(by(with_reducible repeat(first|apply Kd.R_alloc|apply Kd.R_drewN|apply Kd.R_drew));exact HO314.out));(case aS=>exact(below_size z10_0));(case aL=>have:=LMc12.out;have hlx_:=(show((l0.take ((wrap64 (t311+(wrap64 (t310)))):Int).toNat).drop (t311:Int).toNat).length=((wrap64 (t311+(wrap64 (t310)))).toNat - t311.toNat) from(by rw [List.length_drop,List.length_take];have h_:((wrap64 (t311+(wrap64 (t310)))):Int)<=(l0.length:Int):=oD_ z10_1;omega));omega);intro v317 w17 ho hb hg hat;rw [<-Ny316.out] at ho;replace HB:=U (hb);have HO318:=U (ho);clear HO314;clear ho hb hg hat))
 go_ret2
 exact ⟨_,z10_8,(by(with_reducible repeat(first|apply Kd.R_alloc|apply Kd.R_drewN|apply Kd.R_drew));exact HO318.out),z10_0⟩
mutual
def r02_Unpack.j0:Nat->List Int->Int->Int->Bool->Option ((List (List Int))×Int)
 | 0,_,_,_,_=>none
 | k+1,x0,x6,x7,x24=>if x24=true then(some (([]:List (List Int)),0)) else(r02_Unpack.l0 k x0 x6 x7 (([]:List (List Int))) 0)
def r02_Unpack.l0:Nat->List Int->Int->Int->List (List Int)->Int->Option ((List (List Int))×Int)
 | 0,_,_,_,_,_=>none
 | k+1,x0,x6,x7,x8,x9=>if x9<(wrap64 (x6)) then(if 0<=x7 then(if x7<=(x0.length:Int) then((r02_GetText.f k (x0.drop (x7:Int).toNat)).bind λbt325=>(if bt325.2=0 then(some (([]:List (List Int)),0)) else(if x8.length<5864062014805 then(r02_Unpack.l0 k x0 x6 (wrap64 (x7+bt325.2)) (x8++[bt325.1]) (wrap64 (x9+1))) else(none)))) else(none)) else(none)) else(some (x8,x7))
end
def r02_Unpack.f (k:Nat) (l0:List Int) (a1:Int):Option ((List (List Int))×Int):=(r02_GetNum.f k l0).bind λbt319=>(if bt319.2=0 then(r02_Unpack.j0 k l0 bt319.1 bt319.2 true) else(r02_Unpack.j0 k l0 bt319.1 bt319.2 (decide (bt319.1 > (IntKind.u64.wrap (a1))))))
theorem r02_Unpack.calls (k:Nat) (A0:Option Addr) (c0:Nat) (l0:List Int) (a1:Int) (r1:List (List Int)) (r2:Int) (w:World) (hr0:Kd.C (Kd.int .u8) w A0 l0.length l0) (hc0:l0.length<=c0) (h:r02_Unpack.f k l0 a1=some (r1,r2)) :
  Calls Try.prog 53 #[.slice A0 l0.length c0,.int .i64 a1] w λe w'=>∃ v0_:Value,e = .returned (.tuple #[v0_,.int .i64 r2])/\Kd.S (Kd.slice 5 (Kd.int .u8)) 22 w' w.heap.size (λ_=>True) v0_ r1/\Below w.heap.size w w':=by
 have HR0:=Aside0.mk hr0
 have HC0:=Aside0.mk hc0
 clear hr0 hc0
 have HB:=U (Below.refl w.heap.size w)
 have H:((r02_GetNum.f k l0).bind λbt319=>(if bt319.2=0 then(r02_Unpack.j0 k l0 bt319.1 bt319.2 true) else(r02_Unpack.j0 k l0 bt319.1 bt319.2 (decide (bt319.1 > (IntKind.u64.wrap (a1)))))))=some (r1,r2):=h
 clear h
 replace H:=oB_ H
 obtain ⟨⟨t319,t320⟩,A30,H⟩:=H
 replace H:(if t320=0 then(r02_Unpack.j0 k l0 t319 t320 true) else(r02_Unpack.j0 k l0 t319 t320 (decide (t319 > (IntKind.u64.wrap (a1))))))=some (r1,r2):=H
 have A3:=Aside0.mk A30
 clear A30
 have HC4:=Aside0.mk H
 clear H
 go_enter Try.func53,Try.ntmps53
 go_upto_region 2 with (first|((with_reducible refine gate_callee (f:=87) rfl ?_);refine goesL_ (some 14) rfl rfl Try.func87 z14_15 rfl #[.slice A0 l0.length c0] rfl z10_2 ?_;(with_reducible refine(r02_GetNum.calls k _ _ l0 t319 t320 _ ?side1 ?side2 A3.out).mono ?_);(case side1=>exact z10_6);(case side2=>exact HC0.out);rintro e w5 ⟨rfl,hb⟩;refine ⟨_,rfl,?_⟩;replace HB:=U (below_step z10_0 hb);(try clear hb);(try clear hb2);(try clear hk);(try clear hi)))
 (try simp only [Act.put,List.setIfInBounds_toArray,List.set_cons_zero,List.set_cons_succ])
 go_cut [24] (λv24 wc=>∃ (kq:Nat) (x24_3:Bool),v24 = .bool x24_3/\Aside0 (r02_Unpack.j0 kq l0 t319 t320 x24_3=some (r1,r2))/\Aside0 (kq<=k)/\Aside0 (Below w.heap.size w wc))
 case first =>
  have H:=HC4.out
  clear HC4
  by_cases c6:t320=0
  rotate_left
  ·rw [if_neg c6] at H
   have c6b0:(t320 == 0)=false:=beq_eq_false_iff_ne.mpr c6
   have c6b1:(t320 != 0)=true:=bne_iff_ne.mpr c6
   (first|rw [c6b0]|(simp only [i64_w,i32_w];rw [c6b0])|skip)
   have H':=Aside0.mk H
   clear H
   go_wp2
   go_meet
   case rel=>exact ⟨_,(decide (t319 > (IntKind.u64.wrap (a1)))),z10_4,H',⟨z14_19⟩,⟨z10_0⟩⟩
  rw [if_pos c6] at H
  have c6b0:(t320 == 0)=true:=beq_iff_eq.mpr c6
  have c6b1:(t320 != 0)=false:=bne_eq_false_iff_eq.mpr c6
  clear c6
  (first|rw [c6b0]|(simp only [i64_w,i32_w];rw [c6b0])|skip)
  have H':=Aside0.mk H
  clear H
  go_wp2
  go_meet
  case rel=>exact ⟨_,(true),z10_4,H',⟨z14_19⟩,⟨z10_0⟩⟩
 case rest =>
 clear HC4
 try clear p2
 try clear c5
 try clear c6
 try clear c6b0
 try clear c6b1
 obtain ⟨kq,x24_3,rfl,HA,HJ3,HB⟩:=hcut
 cases kq with
 | zero=>exact absurd HA.out (by simp [r02_Unpack.j0])
 | succ kj3 =>
 have H:=HA.out
 clear HA
 simp only [r02_Unpack.j0] at H
 by_cases c7:x24_3=true
 ·subst c7
  have H1:(some (([]:List (List Int)),0))=some (r1,r2):=by rw [if_pos rfl] at H;exact H
  clear H
  have H:=H1
  clear H1
  simp only [Option.some.injEq,Prod.mk.injEq] at H
  obtain ⟨rfl,rfl⟩:=H
  go_wp2
  go_ret2
  exact ⟨_,z10_8,z14_16,z10_0⟩
 replace c7:=Bool.eq_false_iff.mpr c7
 subst c7
 have H1:(r02_Unpack.l0 kj3 l0 t319 t320 (([]:List (List Int))) 0)=some (r1,r2):=by rw [if_neg (show ¬ (false=true) by decide)] at H;exact H
 clear H
 have H:=H1
 clear H1
 obtain ⟨y321,hy321⟩:∃ y_:List (List Int),y_=(([]:List (List Int))):=⟨_,rfl⟩
 replace H:(r02_Unpack.l0 kj3 l0 t319 t320 y321 0)=some (r1,r2):=by first|(rw [hy321];with_reducible exact H)|(have H2_:=(Option.bind_some _ _).symm.trans H;rw [hy321];with_reducible exact H2_)|(have H2_:=(Option.bind_some _ _).symm.trans H;with_reducible exact H2_)|with_reducible exact H|(rw [hy321];exact H)|exact H
 have Ny321:=Aside0.mk hy321
 clear hy321
 have H':=Aside0.mk H
 clear H
 go_wp2_with (first|((with_reducible refine gate_dst (N:=25) rfl ?_);refine Kd.S_lit (Kd.slice 5 (Kd.int .u8)) _ 22 ?hg (N:=25) ?hd (xs:=([]:List (List Int))) (inner:=[]) (ok:=λ_=>True) (okp:=λ_=>True) ?hr ?hp (λ_ hk=>hk) trivial (Below.refl _ _) (Nat.le_refl _) (by simp) ?_;(case hd=>rfl);(case hg=>rfl);(case hr=>first|(go_simp;done)|(go_simp;rfl));(case hp=>exact(Reps.none _ _));intro v322 w8 ho9 hb hg_ hnew_;clear hg_ hnew_;(first|rw [<-Ny321.out] at ho9|(simp only [Int.reduceToNat] at ho9;rw [<-Ny321.out] at ho9));have HO323:=U (Kd.S_lower ho9 (below_size z10_0));replace HB:=U (below_step z10_0 hb);clear hb ho9))
 go_loopg [7,8,9] kj3 (λkq v7 v8 v9 w'=>∃ (x7_2:Int) (x8_2:List (List Int)) (x9_2:Int),v7 = .int .i64 x7_2/\v9 = .int .i64 x9_2/\Aside0 (r02_Unpack.l0 kq l0 t319 x7_2 x8_2 x9_2=some (r1,r2))/\Aside0 (kq<=kj3)/\Aside0 (Kd.S (Kd.slice 5 (Kd.int .u8)) 22 w' w.heap.size (λ_=>True) v8 x8_2)/\Aside0 (Below w.heap.size w w'))
 case atStart=>exact ⟨(t320),(y321),(0),z10_4,z10_4,H',⟨Nat.le_refl _⟩,⟨(by(with_reducible repeat(first|apply Kd.S_alloc|apply Kd.S_drewN|apply Kd.S_drew));exact HO323.out)⟩,⟨z10_0⟩⟩
 case round =>
 clear H'
 try clear p2
 try clear c5
 try clear c6
 try clear c6b0
 try clear c6b1
 try clear c7
 try clear c8
 try clear p2
 obtain ⟨x7_2,x8_2,x9_2,rfl,rfl,HA,HK2,HO_8,HB⟩:=hrel
 cases gk with
 | zero=>exact absurd HA.out (by simp [r02_Unpack.l0])
 | succ k2 =>
 have H:=HA.out
 clear HA
 simp only [r02_Unpack.l0] at H
 by_cases c10:x9_2<(wrap64 (t319))
 rotate_left
 ·rw [if_neg c10] at H
  have c10b0:decide (x9_2<(wrap64 (t319)))=false:=dF_ c10
  clear c10
  simp only [Option.some.injEq,Prod.mk.injEq] at H
  obtain ⟨rfl,rfl⟩:=H
  go_wp2
  go_ret2
  exact ⟨_,z10_8,z14_10,z10_0⟩
 rw [if_pos c10] at H
 have c10b0:decide (x9_2<(wrap64 (t319)))=true:=dT_ c10
 clear c10
 by_cases c11:0<=x7_2
 rotate_left
 ·rw [if_neg c11] at H
  exact absurd H (by simp)
 rw [if_pos c11] at H
 have c11b0:=eq_true c11
 have c11b1:decide (0<=x7_2)=true:=dT_ c11
 clear c11
 by_cases c12:x7_2<=(l0.length:Int)
 rotate_left
 ·rw [if_neg c12] at H
  exact absurd H (by simp)
 rw [if_pos c12] at H
 have c12b0:=eq_true c12
 have c12b1:decide (x7_2<=(l0.length:Int))=true:=dT_ c12
 clear c12
 replace H:=oB_ H
 obtain ⟨⟨t325,t326⟩,A130,H⟩:=H
 replace H:(if t326=0 then(some (([]:List (List Int)),0)) else(if x8_2.length<5864062014805 then(r02_Unpack.l0 k2 l0 t319 (wrap64 (x7_2+t326)) (x8_2++[t325]) (wrap64 (x9_2+1))) else(none)))=some (r1,r2):=H
 have A13:=Aside0.mk A130
 clear A130
 by_cases c14:t326=0
 ·rw [if_pos c14] at H
  have c14b0:(t326 == 0)=true:=beq_iff_eq.mpr c14
  have c14b1:(t326 != 0)=false:=bne_eq_false_iff_eq.mpr c14
  clear c14
  simp only [Option.some.injEq,Prod.mk.injEq] at H
  obtain ⟨rfl,rfl⟩:=H
  obtain ⟨i015,hi015,_,hsz15,_⟩:=info_parts info5
  obtain ⟨A15,hcut15,hA15,hC15⟩:=print_drop_of (P:=Try.prog) (Value.int .u8) 0 22 5 .i64 Try.underlying22 hi015 hsz15 A0 c0 l0 x7_2 (oD_ z10_1) (oD_ z10_1) HC0.out
  have HR324:=U (Kd.C_of_reads (h1:=λ_=>rfl) (hA15 _ (Kd.reads_of_C HR0.out)))
  have HC324:=Aside0.mk hC15
  clear hA15 hC15 hi015 hsz15
  go_wp2_with (first|((with_reducible refine gate_callee (f:=88) rfl ?_);refine goesL_ (some 36) rfl rfl Try.func88 z14_15 rfl #[.slice A15 (l0.drop (x7_2:Int).toNat).length (c0 - x7_2.toNat)] rfl z14_9 ?_;(with_reducible refine(r02_GetText.calls k2 _ _ (l0.drop (x7_2:Int).toNat) t325 t326 _ ?side1 ?side2 A13.out).mono ?_);(case side1=>exact z14_12);(case side2=>exact HC324.out);rintro e w16 ⟨v327,rfl,ho0,hb⟩;refine ⟨_,rfl,?_⟩;replace HO_8:=U (Kd.S_elder' z14_10 (Kd.R_base ho0) hb);have HO328:=U (Kd.R_lower ho0 (below_size z10_0));replace HB:=U (below_step z10_0 hb);(try clear hb);(try clear hb2);(try clear hk);(try clear hi);(try clear ho0)))
  go_ret2
  exact ⟨_,z10_8,z14_16,z10_0⟩
 rw [if_neg c14] at H
 have c14b0:(t326 == 0)=false:=beq_eq_false_iff_ne.mpr c14
 have c14b1:(t326 != 0)=true:=bne_iff_ne.mpr c14
 by_cases c17:x8_2.length<5864062014805
 rotate_left
 ·rw [if_neg c17] at H
  exact absurd H (by simp)
 rw [if_pos c17] at H
 have LMc17:=Aside0.mk c17
 clear c17
 obtain ⟨y329,hy329⟩:∃ y_:List (List Int),y_=(x8_2++[t325]):=⟨_,rfl⟩
 replace H:(r02_Unpack.l0 k2 l0 t319 (wrap64 (x7_2+t326)) y329 (wrap64 (x9_2+1)))=some (r1,r2):=by first|(rw [hy329];with_reducible exact H)|(have H2_:=(Option.bind_some _ _).symm.trans H;rw [hy329];with_reducible exact H2_)|(have H2_:=(Option.bind_some _ _).symm.trans H;with_reducible exact H2_)|with_reducible exact H|(rw [hy329];exact H)|exact H
 have Ny329:=Aside0.mk hy329
 clear hy329
 have H':=Aside0.mk H
 clear H
 obtain ⟨i018,hi018,_,hsz18,_⟩:=info_parts info5
 obtain ⟨A18,hcut18,hA18,hC18⟩:=print_drop_of (P:=Try.prog) (Value.int .u8) 0 22 5 .i64 Try.underlying22 hi018 hsz18 A0 c0 l0 x7_2 (oD_ z10_1) (oD_ z10_1) HC0.out
 have HR324:=U (Kd.C_of_reads (h1:=λ_=>rfl) (hA18 _ (Kd.reads_of_C HR0.out)))
 have HC324:=Aside0.mk hC18
 clear hA18 hC18 hi018 hsz18
 go_wp2_with (first|((with_reducible refine gate_callee (f:=88) rfl ?_);refine goesL_ (some 36) rfl rfl Try.func88 z14_15 rfl #[.slice A18 (l0.drop (x7_2:Int).toNat).length (c0 - x7_2.toNat)] rfl z14_9 ?_;(with_reducible refine(r02_GetText.calls k2 _ _ (l0.drop (x7_2:Int).toNat) t325 t326 _ ?side1 ?side2 A13.out).mono ?_);(case side1=>exact z14_12);(case side2=>exact HC324.out);rintro e w19 ⟨v327,rfl,ho0,hb⟩;refine ⟨_,rfl,?_⟩;replace HO_8:=U (Kd.S_elder' z14_10 (Kd.R_base ho0) hb);have HO328:=U (Kd.R_lower ho0 (below_size z10_0));replace HB:=U (below_step z10_0 hb);(try clear hb);(try clear hb2);(try clear hk);(try clear hi);(try clear ho0);obtain ⟨Ao21,co21,eo21⟩:=Kd.R_slice HO328.out;subst eo21)|((with_reducible refine gate_builtin (b:=.append) (xs:=#[.tmp 41,.tmp 43]) rfl ?_);at_builtin;refine Kd.S_append (Kd.slice 5 (Kd.int .u8)) (w0:=w) w.heap.size rfl (.tmp 41) (.tmp 43) 73 22 (.slice none 0 0) 24 rfl Try.underlying73 info22 rfl (by decide) (by omega) u8 x8_2 t325 [.slice Ao21 t325.length co21] (λ_=>True) (λk_=>some k_=(.slice Ao21 t325.length co21:Value).ownBlock) rfl rfl ?aP (λk_ hk_=>((Kd.R_mono (ok':=λk_=>((λ_=>True)) k_/\some k_≠(u8:Value).ownBlock) (Kd.R_apart' (HO328.out) (Kd.S_typed HO_8.out) (by decide)) (λk_ hk=>⟨trivial,hk.2⟩))).1 k_ hk_.symm) ?aF ?aO ?aB ?aS ?aL ?_;(case aP=>exact Kd.M_row (Kd.R_mono (Kd.R_tight rfl (Kd.R_mono (ok':=λk_=>((λ_=>True)) k_/\some k_≠(u8:Value).ownBlock) (Kd.R_apart' (HO328.out) (Kd.S_typed HO_8.out) (by decide)) (λk_ hk=>⟨trivial,hk.2⟩))) (λ_ h_=>h_)));(case aB=>exact z10_0);(case aF=>exact(λ_ _=>trivial));(case aO=>exact(by(with_reducible repeat(first|apply Kd.S_alloc|apply Kd.S_drewN|apply Kd.S_drew));exact Kd.S_mono HO_8.out (λk_ hk=>⟨trivial,λe_=>hk.2 e_⟩)));(case aS=>exact(below_size z10_0));(case aL=>have:=LMc17.out;omega);intro v330 w20 ho hb hg hat;rw [<-Ny329.out] at ho;replace HB:=U (hb);have HO331:=U (ho);clear HO_8 HO328;clear ho hb hg hat))
 go_roundg k2
 case measure=>have:=HJ3.out;have:=HK2.out;omega
 case rel=>exact ⟨(wrap64 (x7_2+t326)),(y329),(wrap64 (x9_2+1)),z10_4,z10_4,H',⟨(by have:=HJ3.out;have:=HK2.out;omega)⟩,⟨(by(with_reducible repeat(first|apply Kd.S_alloc|apply Kd.S_drewN|apply Kd.S_drew));exact HO331.out)⟩,⟨z10_0⟩⟩
end Go.Proofs.Ytgocnchjpecafaa.PEv
