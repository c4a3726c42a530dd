/- a part -/
import Derived.Test.YtgocnchjpecafaaPEvx4
import Derived.Test.YtgocnchjpecafaaPEvx6
namespace Go.Proofs.Ytgocnchjpecafaa.PEv
open Go.RowKit Go.Proofs.YtgocnchjpecafaaW.PrintWords Go.Proofs.YtgocnchjpecafaaW.PrintLast Go.Proofs.YtgocnchjpecafaaW.PrintMore
attribute [local go_sem] max2_int min2_int max_two min_two max_three min_three max_four min_four
set_option linter.unusedVariables false
set_option linter.unusedSimpArgs false
set_option maxHeartbeats 8000000
set_option maxRecDepth 100000
theorem z7_4 {P:Prop} (h:P:=by repeat(first|exact(by repeat(first|(with_reducible exact HR184_0.out)|(with_reducible refine Kd.C_alloc ?_ _)|(with_reducible refine Kd.C_drewN ?_ _)|(with_reducible refine Kd.C_drew ?_)|exact HR184_0.out))|(with_reducible refine Kd.C_alloc ?_ _)|(with_reducible refine Kd.C_drewN ?_ _)|(with_reducible refine Kd.C_drew ?_))):P:=h
theorem z7_6 {P:Prop} (h:P:=by(with_reducible repeat(first|apply Kd.R_alloc|apply Kd.R_drewN|apply Kd.R_drew));exact HO_8.out):P:=h
theorem z7_7 {P:Prop} (h:P:=by repeat(first|exact(Kd.C_below HR172_0.out HB.out)|(with_reducible refine Kd.C_alloc ?_ _)|(with_reducible refine Kd.C_drewN ?_ _)|(with_reducible refine Kd.C_drew ?_))):P:=h
theorem z7_10 {P:Prop} (h:P:=by first|exact Kd.S_nil _ _ _ _ _|exact Kd.N_nil _ _ _ _ _|exact Kd.V_nil _ _ _ _ _|exact Kd.Q_nil _ _ _ _ _|exact Kd.R_nil _ _ _ _ _):P:=h
theorem z7_11 {P:Prop} (h:P:=by(with_reducible repeat(first|apply Kd.S_alloc|apply Kd.S_drewN|apply Kd.S_drew));exact HO_23.out):P:=h
theorem z7_12 {P:Prop} (h:P:=by first|exact q184|exact oD_ z6_1|(have e_:=(Kd.S_reads' HO_23.out).1;omega)):P:=h
theorem z7_13 {P:Prop} (h:P:=by(try simp only [List.map_toArray,List.map_cons,List.map_nil]);first|done|(rw [show(l0.drop (x8_3:Int).toNat).length=(l0.length - x8_3.toNat) from List.length_drop]<;>rfl)|rfl|(simp only [List.length_drop,List.length_take];rfl)):P:=h
theorem z7_14 {P:Prop} (h:P:=by(with_reducible repeat(first|apply Kd.S_alloc|apply Kd.S_drewN|apply Kd.S_drew));exact HO_10.out):P:=h
theorem z7_15 {P:Prop} (h:P:=by repeat(first|exact(Kd.C_below HR158.out HB.out)|(with_reducible refine Kd.C_alloc ?_ _)|(with_reducible refine Kd.C_drewN ?_ _)|(with_reducible refine Kd.C_drew ?_))):P:=h
theorem z7_16 {P:Prop} (h:P:=by repeat(first|exact(Kd.R_reads' HO_8.out).2.2|(with_reducible refine Kd.C_alloc ?_ _)|(with_reducible refine Kd.C_drewN ?_ _)|(with_reducible refine Kd.C_drew ?_))):P:=h
mutual
def wire_Unpack.j0:Nat->List Int->Int->Bool->Option ((List (List Int))×Int×Int)
 | 0,_,_,_=>none
 | k+1,x0,x1,x19=>if x19=true then(some (([]:List (List Int)),0,1)) else((wire_GetNum.f k x0).bind λbt155=>(if bt155.2.2=0 then(wire_Unpack.j1 k x0 bt155.1 bt155.2.1 (decide (bt155.1 > (IntKind.u64.wrap (x1))))) else(wire_Unpack.j1 k x0 bt155.1 bt155.2.1 true)))
def wire_Unpack.j1:Nat->List Int->Int->Int->Bool->Option ((List (List Int))×Int×Int)
 | 0,_,_,_,_=>none
 | k+1,x0,x7,x8,x33=>if x33=true then(some (([]:List (List Int)),0,2)) else(wire_Unpack.l0 k x0 x8 ([]:List (List Int)) x7 0)
def wire_Unpack.l0:Nat->List Int->Int->List (List Int)->Int->Int->Option ((List (List Int))×Int×Int)
 | 0,_,_,_,_,_=>none
 | k+1,x0,x8,x10,x34,x35=>if x35<x34 then(if 0<=x8 then(if x8<=(x0.length:Int) then((wire_GetText.f k (x0.drop (x8:Int).toNat)).bind λbt159=>(if bt159.2.2=0 then(if x10.length<5864062014805 then(wire_Unpack.l0 k x0 (wrap64 (x8+bt159.2.1)) (x10++[bt159.1]) x34 (IntKind.u64.wrap (x35+1))) else(none)) else(some (([]:List (List Int)),0,bt159.2.2)))) else(none)) else(none)) else(some (x10,x8,0))
end
def wire_Unpack.f (k:Nat) (l0:List Int) (a1:Int):Option ((List (List Int))×Int×Int):=if a1<0 then(wire_Unpack.j0 k l0 a1 true) else(wire_Unpack.j0 k l0 a1 (decide (a1 > 1000)))
theorem wire_Unpack.mono_l:∀ k,(∀ y0 y1 y2,LeO (wire_Unpack.j0 k y0 y1 y2) (wire_Unpack.j0 (k+1) y0 y1 y2))/\(∀ y0 y1 y2 y3,LeO (wire_Unpack.j1 k y0 y1 y2 y3) (wire_Unpack.j1 (k+1) y0 y1 y2 y3))/\(∀ y0 y1 y2 y3 y4,LeO (wire_Unpack.l0 k y0 y1 y2 y3 y4) (wire_Unpack.l0 (k+1) y0 y1 y2 y3 y4))
 | 0=>⟨λ_ _ _ r h=>by simp [wire_Unpack.j0] at h,λ_ _ _ _ r h=>by simp [wire_Unpack.j1] at h,λ_ _ _ _ _ r h=>by simp [wire_Unpack.l0] at h⟩
 | k+1=>by
  obtain ⟨ih0,ih1,ih2⟩:=wire_Unpack.mono_l k
  refine ⟨?_,?_,?_⟩
  ·intro y0 y1 y2
   unfold wire_Unpack.j0
   repeat' first
   | (with_reducible exact ih0 _ _ _)
   | (with_reducible exact ih1 _ _ _ _)
   | (with_reducible exact ih2 _ _ _ _ _)
   | (with_reducible exact wire_GetNum.mono _ _)
   | (with_reducible exact wire_GetText.mono _ _)
   | (with_reducible exact LeO.refl _)
   | (with_reducible exact LeO.none _)
   | (with_reducible refine LeO.ite ?_ ?_)
   | (with_reducible refine LeO.bind ?_ (λ_=>?_))
  ·intro y0 y1 y2 y3
   unfold wire_Unpack.j1
   repeat' first
   | (with_reducible exact ih0 _ _ _)
   | (with_reducible exact ih1 _ _ _ _)
   | (with_reducible exact ih2 _ _ _ _ _)
   | (with_reducible exact wire_GetNum.mono _ _)
   | (with_reducible exact wire_GetText.mono _ _)
   | (with_reducible exact LeO.refl _)
   | (with_reducible exact LeO.none _)
   | (with_reducible refine LeO.ite ?_ ?_)
   | (with_reducible refine LeO.bind ?_ (λ_=>?_))
  ·intro y0 y1 y2 y3 y4
   unfold wire_Unpack.l0
   repeat' first
   | (with_reducible exact ih0 _ _ _)
   | (with_reducible exact ih1 _ _ _ _)
   | (with_reducible exact ih2 _ _ _ _ _)
   | (with_reducible exact wire_GetNum.mono _ _)
   | (with_reducible exact wire_GetText.mono _ _)
   | (with_reducible exact LeO.refl _)
   | (with_reducible exact LeO.none _)
   | (with_reducible refine LeO.ite ?_ ?_)
   | (with_reducible refine LeO.bind ?_ (λ_=>?_))
theorem wire_Unpack.mono:∀ a0 a1 k,LeO (wire_Unpack.f k a0 a1) (wire_Unpack.f (k+1) a0 a1):=by
 intro a0 a1 k
 obtain ⟨ih0,ih1,ih2⟩:=wire_Unpack.mono_l k
 unfold wire_Unpack.f
 repeat' first
  | (with_reducible exact ih0 _ _ _)
  | (with_reducible exact ih1 _ _ _ _)
  | (with_reducible exact ih2 _ _ _ _ _)
  | (with_reducible exact wire_GetNum.mono _ _)
  | (with_reducible exact wire_GetText.mono _ _)
  | (with_reducible exact LeO.refl _)
  | (with_reducible exact LeO.none _)
  | (with_reducible refine LeO.ite ?_ ?_)
  | (with_reducible refine LeO.bind ?_ (λ_=>?_))
theorem wire_Unpack.calls (k:Nat) (A0:Option Addr) (c0:Nat) (l0:List Int) (a1:Int) (r1:List (List Int)) (r2:Int) (r3:Int) (w:World) (hr0:Kd.C (Kd.int .u8) w A0 l0.length l0) (hc0:l0.length<=c0) (h:wire_Unpack.f k l0 a1=some (r1,r2,r3)) :
  Calls Try.prog 78 #[.slice A0 l0.length c0,.int .i64 a1] w λe w'=>∃ v0_:Value,e = .returned (.tuple #[v0_,.int .i64 r2,.int .i64 r3])/\Kd.S (Kd.slice 5 (Kd.int .u8)) 22 w' w.heap.size (λ_=>True) v0_ r1/\Below w.heap.size w w':=by
 have HR0:=Aside0.mk hr0
 have HC0:=Aside0.mk hc0
 clear hr0 hc0
 have HB:=U (Below.refl w.heap.size w)
 have H:(if a1<0 then(wire_Unpack.j0 k l0 a1 true) else(wire_Unpack.j0 k l0 a1 (decide (a1 > 1000))))=some (r1,r2,r3):=h
 clear h
 have HC3:=Aside0.mk H
 clear H
 go_enter Try.func78,Try.ntmps78
 go_upto_region 1 with (fail)
 go_cut [19] (λv19 wc=>∃ (kq:Nat) (x19_2:Bool),v19 = .bool x19_2/\Aside0 (wire_Unpack.j0 kq l0 a1 x19_2=some (r1,r2,r3))/\Aside0 (kq<=k)/\Aside0 (Below w.heap.size w wc))
 case first =>
  have H:=HC3.out
  clear HC3
  by_cases c4:a1<0
  ·rw [if_pos c4] at H
   have c4b0:decide (a1<0)=true:=dT_ c4
   clear c4
   (first|rw [c4b0]|(simp only [i64_w,i32_w];rw [c4b0])|skip)
   have H':=Aside0.mk H
   clear H
   go_wp2
   go_meet
   case rel=>exact ⟨_,(true),z20_3,H',⟨(by first|omega|exact Nat.le_refl _)⟩,⟨z20_4⟩⟩
  rw [if_neg c4] at H
  have c4b0:decide (a1<0)=false:=dF_ c4
  clear c4
  (first|rw [c4b0]|(simp only [i64_w,i32_w];rw [c4b0])|skip)
  have H':=Aside0.mk H
  clear H
  go_wp2
  go_meet
  case rel=>exact ⟨_,(decide (a1 > 1000)),z20_3,H',⟨(by first|omega|exact Nat.le_refl _)⟩,⟨z20_4⟩⟩
 case rest =>
 clear HC3
 try clear p2
 try clear c4
 try clear c4b0
 obtain ⟨kq,x19_2,rfl,HA,HJ2,HB⟩:=hcut
 cases kq with
 | zero=>exact absurd HA.out (by simp [wire_Unpack.j0])
 | succ kj2 =>
 have H:=HA.out
 clear HA
 simp only [wire_Unpack.j0] at H
 by_cases c5:x19_2=true
 ·subst c5
  have H1:(some (([]:List (List Int)),0,1))=some (r1,r2,r3):=by rw [if_pos rfl] at H;exact H
  clear H
  have H:=H1
  clear H1
  simp only [Option.some.injEq,Prod.mk.injEq] at H
  obtain ⟨rfl,rfl,rfl⟩:=H
  go_wp2
  go_ret3
  exact ⟨_,z20_1,z7_10,z20_4⟩
 replace c5:=Bool.eq_false_iff.mpr c5
 subst c5
 have H1:((wire_GetNum.f kj2 l0).bind λbt155=>(if bt155.2.2=0 then(wire_Unpack.j1 kj2 l0 bt155.1 bt155.2.1 (decide (bt155.1 > (IntKind.u64.wrap (a1))))) else(wire_Unpack.j1 kj2 l0 bt155.1 bt155.2.1 true)))=some (r1,r2,r3):=by rw [if_neg (show ¬ (false=true) by decide)] at H;exact H
 clear H
 have H:=H1
 clear H1
 replace H:=oB_ H
 obtain ⟨⟨t155,t156,t157⟩,A60,H⟩:=H
 replace H:(if t157=0 then(wire_Unpack.j1 kj2 l0 t155 t156 (decide (t155 > (IntKind.u64.wrap (a1))))) else(wire_Unpack.j1 kj2 l0 t155 t156 true))=some (r1,r2,r3):=H
 have A6:=Aside0.mk A60
 clear A60
 have HC7:=Aside0.mk H
 clear H
 go_upto_region 4 with (first|((with_reducible refine gate_callee (f:=86) rfl ?_);refine goesL_ (some 22) rfl rfl Try.func86 (by kernel_rfl) rfl #[.slice A0 l0.length c0] rfl z6_5 ?_;(with_reducible refine(wire_GetNum.calls kj2 _ _ l0 t155 t156 t157 _ ?side1 ?side2 A6.out).mono ?_);(case side1=>repeat(first|exact(Kd.C_below HR0.out HB.out)|(with_reducible refine Kd.C_alloc ?_ _)|(with_reducible refine Kd.C_drewN ?_ _)|(with_reducible refine Kd.C_drew ?_)));(case side2=>exact HC0.out);rintro e w' ⟨rfl,⟨nd,rfl⟩⟩;refine ⟨_,rfl,?_⟩))
 (try simp only [Act.put,List.setIfInBounds_toArray,List.set_cons_zero,List.set_cons_succ])
 go_cut [33] (λv33 wc=>∃ (kq:Nat) (x33_6:Bool),v33 = .bool x33_6/\Aside0 (wire_Unpack.j1 kq l0 t155 t156 x33_6=some (r1,r2,r3))/\Aside0 (kq<=kj2)/\Aside0 (Below w.heap.size w wc))
 case first =>
  have H:=HC7.out
  clear HC7
  by_cases c8:t157=0
  rotate_left
  ·rw [if_neg c8] at H
   have c8b0:(t157 == 0)=false:=beq_eq_false_iff_ne.mpr c8
   have c8b1:(t157 != 0)=true:=bne_iff_ne.mpr c8
   (first|rw [c8b0]|(simp only [i64_w,i32_w];rw [c8b0])|skip)
   have H':=Aside0.mk H
   clear H
   go_wp2
   go_meet
   case rel=>exact ⟨_,(true),z20_3,H',⟨(by have:=HJ2.out;first|omega|exact Nat.le_refl _)⟩,⟨z20_4⟩⟩
  rw [if_pos c8] at H
  have c8b0:(t157 == 0)=true:=beq_iff_eq.mpr c8
  have c8b1:(t157 != 0)=false:=bne_eq_false_iff_eq.mpr c8
  clear c8
  (first|rw [c8b0]|(simp only [i64_w,i32_w];rw [c8b0])|skip)
  have H':=Aside0.mk H
  clear H
  go_wp2
  go_meet
  case rel=>exact ⟨_,(decide (t155 > (IntKind.u64.wrap (a1)))),z20_3,H',⟨(by have:=HJ2.out;first|omega|exact Nat.le_refl _)⟩,⟨z20_4⟩⟩
 case rest =>
 clear HC7
 try clear p2
 try clear c4
 try clear c4b0
 try clear c5
 try clear c7
 try clear c8
 try clear c8b0
 try clear c8b1
 try clear p2
 obtain ⟨kq,x33_6,rfl,HA,HJ6,HB⟩:=hcut
 cases kq with
 | zero=>exact absurd HA.out (by simp [wire_Unpack.j1])
 | succ kj6 =>
 have H:=HA.out
 clear HA
 simp only [wire_Unpack.j1] at H
 by_cases c9:x33_6=true
 ·subst c9
  have H1:(some (([]:List (List Int)),0,2))=some (r1,r2,r3):=by rw [if_pos rfl] at H;exact H
  clear H
  have H:=H1
  clear H1
  simp only [Option.some.injEq,Prod.mk.injEq] at H
  obtain ⟨rfl,rfl,rfl⟩:=H
  go_wp2
  go_ret3
  exact ⟨_,z20_1,z7_10,z20_4⟩
 replace c9:=Bool.eq_false_iff.mpr c9
 subst c9
 have H1:(wire_Unpack.l0 kj6 l0 t156 ([]:List (List Int)) t155 0)=some (r1,r2,r3):=by rw [if_neg (show ¬ (false=true) by decide)] at H;exact H
 clear H
 have H:=H1
 clear H1
 have H':=Aside0.mk H
 clear H
 go_wp2
 go_loopg [8,10,35] kj6 (λkq v8 v10 v35 w'=>∃ (x8_3:Int) (x10_3:List (List Int)) (x35_3:Int),v8 = .int .i64 x8_3/\v35 = .int .u64 x35_3/\Aside0 (wire_Unpack.l0 kq l0 x8_3 x10_3 t155 x35_3=some (r1,r2,r3))/\Aside0 (kq<=kj6)/\Aside0 (Kd.S (Kd.slice 5 (Kd.int .u8)) 22 w' w.heap.size (λ_=>True) v10 x10_3)/\Aside0 (Below w.heap.size w w'))
 case atStart=>exact ⟨(t156),(([]:List (List Int))),(0),z20_3,z20_3,H',⟨Nat.le_refl _⟩,⟨z7_10⟩,⟨z20_4⟩⟩
 case round =>
 clear H'
 try clear p2
 try clear c4
 try clear c4b0
 try clear c5
 try clear c7
 try clear c8
 try clear c8b0
 try clear c8b1
 try clear c9
 try clear p2
 obtain ⟨x8_3,x10_3,x35_3,rfl,rfl,HA,HK3,HO_10,HB⟩:=hrel
 cases gk with
 | zero=>exact absurd HA.out (by simp [wire_Unpack.l0])
 | succ k3 =>
 have H:=HA.out
 clear HA
 simp only [wire_Unpack.l0] at H
 by_cases c10:x35_3<t155
 rotate_left
 ·rw [if_neg c10] at H
  have c10b0:decide (x35_3<t155)=false:=dF_ c10
  clear c10
  simp only [Option.some.injEq,Prod.mk.injEq] at H
  obtain ⟨rfl,rfl,rfl⟩:=H
  go_wp2
  go_ret3
  exact ⟨_,z20_1,z7_14,z20_4⟩
 rw [if_pos c10] at H
 have c10b0:decide (x35_3<t155)=true:=dT_ c10
 clear c10
 by_cases c11:0<=x8_3
 rotate_left
 ·rw [if_neg c11] at H
  exact absurd H (by simp)
 rw [if_pos c11] at H
 have c11b0:=eq_true c11
 have c11b1:decide (0<=x8_3)=true:=dT_ c11
 clear c11
 by_cases c12:x8_3<=(l0.length:Int)
 rotate_left
 ·rw [if_neg c12] at H
  exact absurd H (by simp)
 rw [if_pos c12] at H
 have c12b0:=eq_true c12
 have c12b1:decide (x8_3<=(l0.length:Int))=true:=dT_ c12
 clear c12
 replace H:=oB_ H
 obtain ⟨⟨t159,t160,t161⟩,A130,H⟩:=H
 replace H:(if t161=0 then(if x10_3.length<5864062014805 then(wire_Unpack.l0 k3 l0 (wrap64 (x8_3+t160)) (x10_3++[t159]) t155 (IntKind.u64.wrap (x35_3+1))) else(none)) else(some (([]:List (List Int)),0,t161)))=some (r1,r2,r3):=H
 have A13:=Aside0.mk A130
 clear A130
 by_cases c14:t161=0
 rotate_left
 ·rw [if_neg c14] at H
  have c14b0:(t161 == 0)=false:=beq_eq_false_iff_ne.mpr c14
  have c14b1:(t161 != 0)=true:=bne_iff_ne.mpr c14
  simp only [Option.some.injEq,Prod.mk.injEq] at H
  obtain ⟨rfl,rfl,rfl⟩:=H
  obtain ⟨i020,hi020,_,hsz20,_⟩:=info_parts info5
  obtain ⟨A20,hcut20,hA20,hC20⟩:=print_drop_of (P:=Try.prog) (Value.int .u8) 0 22 5 .i64 Try.underlying22 hi020 hsz20 A0 c0 l0 x8_3 (oD_ z6_1) (oD_ z6_1) HC0.out
  have HR158:=U (Kd.C_of_reads (h1:=λ_=>rfl) (hA20 _ (Kd.reads_of_C HR0.out)))
  have HC158:=Aside0.mk hC20
  clear hA20 hC20 hi020 hsz20
  go_wp2_with (first|((with_reducible refine gate_callee (f:=100) rfl ?_);refine goesL_ (some 41) rfl rfl Try.func100 (by kernel_rfl) rfl #[.slice A20 (l0.drop (x8_3:Int).toNat).length (c0 - x8_3.toNat)] rfl z7_13 ?_;(with_reducible refine(wire_GetText.calls k3 _ _ (l0.drop (x8_3:Int).toNat) t159 t160 t161 _ ?side1 ?side2 A13.out).mono ?_);(case side1=>exact z7_15);(case side2=>exact HC158.out);rintro e w21 ⟨v162,rfl,ho0,hb⟩;refine ⟨_,rfl,?_⟩;replace HO_10:=U (Kd.S_elder' z7_14 (Kd.R_base ho0) hb);have HO163:=U (Kd.R_lower ho0 (below_size z20_4));replace HB:=U (below_step z20_4 hb);(try clear hb);(try clear hb2);(try clear hk);(try clear hi);(try clear ho0)))
  go_ret3
  exact ⟨_,z20_1,z7_10,z20_4⟩
 rw [if_pos c14] at H
 have c14b0:(t161 == 0)=true:=beq_iff_eq.mpr c14
 have c14b1:(t161 != 0)=false:=bne_eq_false_iff_eq.mpr c14
 clear c14
 by_cases c15:x10_3.length<5864062014805
 rotate_left
 ·rw [if_neg c15] at H
  exact absurd H (by simp)
 rw [if_pos c15] at H
 have LMc15:=Aside0.mk c15
 clear c15
 obtain ⟨y164,hy164⟩:∃ y_:List (List Int),y_=(x10_3++[t159]):=⟨_,rfl⟩
 replace H:(wire_Unpack.l0 k3 l0 (wrap64 (x8_3+t160)) y164 t155 (IntKind.u64.wrap (x35_3+1)))=some (r1,r2,r3):=by first|(rw [hy164];with_reducible exact H)|(have H2_:=(Option.bind_some _ _).symm.trans H;rw [hy164];with_reducible exact H2_)|(have H2_:=(Option.bind_some _ _).symm.trans H;with_reducible exact H2_)|with_reducible exact H|(rw [hy164];exact H)|exact H
 have Ny164:=Aside0.mk hy164
 clear hy164
 have H':=Aside0.mk H
 clear H
 obtain ⟨i016,hi016,_,hsz16,_⟩:=info_parts info5
 obtain ⟨A16,hcut16,hA16,hC16⟩:=print_drop_of (P:=Try.prog) (Value.int .u8) 0 22 5 .i64 Try.underlying22 hi016 hsz16 A0 c0 l0 x8_3 (oD_ z6_1) (oD_ z6_1) HC0.out
 have HR158:=U (Kd.C_of_reads (h1:=λ_=>rfl) (hA16 _ (Kd.reads_of_C HR0.out)))
 have HC158:=Aside0.mk hC16
 clear hA16 hC16 hi016 hsz16
 go_wp2_with (first|((with_reducible refine gate_callee (f:=100) rfl ?_);refine goesL_ (some 41) rfl rfl Try.func100 (by kernel_rfl) rfl #[.slice A16 (l0.drop (x8_3:Int).toNat).length (c0 - x8_3.toNat)] rfl z7_13 ?_;(with_reducible refine(wire_GetText.calls k3 _ _ (l0.drop (x8_3:Int).toNat) t159 t160 t161 _ ?side1 ?side2 A13.out).mono ?_);(case side1=>exact z7_15);(case side2=>exact HC158.out);rintro e w17 ⟨v162,rfl,ho0,hb⟩;refine ⟨_,rfl,?_⟩;replace HO_10:=U (Kd.S_elder' z7_14 (Kd.R_base ho0) hb);have HO163:=U (Kd.R_lower ho0 (below_size z20_4));replace HB:=U (below_step z20_4 hb);(try clear hb);(try clear hb2);(try clear hk);(try clear hi);(try clear ho0);obtain ⟨Ao19,co19,eo19⟩:=Kd.R_slice HO163.out;subst eo19)|((with_reducible refine gate_builtin (b:=.append) (xs:=#[.tmp 48,.tmp 50]) rfl ?_);at_builtin;refine Kd.S_append (Kd.slice 5 (Kd.int .u8)) (w0:=w) w.heap.size rfl (.tmp 48) (.tmp 50) 73 22 (.slice none 0 0) 24 rfl Try.underlying73 info22 rfl (by decide) (by omega) u10 x10_3 t159 [.slice Ao19 t159.length co19] (λ_=>True) (λk_=>some k_=(.slice Ao19 t159.length co19:Value).ownBlock) rfl rfl ?aP (λk_ hk_=>((Kd.R_mono (ok':=λk_=>((λ_=>True)) k_/\some k_≠(u10:Value).ownBlock) (Kd.R_apart' (HO163.out) (Kd.S_typed HO_10.out) (by decide)) (λk_ hk=>⟨trivial,hk.2⟩))).1 k_ hk_.symm) ?aF ?aO ?aB ?aS ?aL ?_;(case aP=>exact Kd.M_row (Kd.R_mono (Kd.R_tight rfl (Kd.R_mono (ok':=λk_=>((λ_=>True)) k_/\some k_≠(u10:Value).ownBlock) (Kd.R_apart' (HO163.out) (Kd.S_typed HO_10.out) (by decide)) (λk_ hk=>⟨trivial,hk.2⟩))) (λ_ h_=>h_)));(case aB=>exact z20_4);(case aF=>exact(λ_ _=>trivial));(case aO=>exact(by(with_reducible repeat(first|apply Kd.S_alloc|apply Kd.S_drewN|apply Kd.S_drew));exact Kd.S_mono HO_10.out (λk_ hk=>⟨trivial,λe_=>hk.2 e_⟩)));(case aS=>exact(below_size z20_4));(case aL=>have:=LMc15.out;omega);intro v165 w18 ho hb hg hat;rw [<-Ny164.out] at ho;replace HB:=U (hb);have HO166:=U (ho);clear HO_10 HO163;clear ho hb hg hat))
 go_roundg k3
 case measure=>have:=HJ2.out;have:=HJ6.out;have:=HK3.out;omega
 case rel=>exact ⟨(wrap64 (x8_3+t160)),(y164),(IntKind.u64.wrap (x35_3+1)),z20_3,z20_3,H',⟨(by have:=HJ2.out;have:=HJ6.out;have:=HK3.out;omega)⟩,⟨(by(with_reducible repeat(first|apply Kd.S_alloc|apply Kd.S_drewN|apply Kd.S_drew));exact HO166.out)⟩,⟨z20_4⟩⟩
def event_whole.f (k:Nat) (l0:List Int) (a1:Int):Option ((List (List Int))×Bool):=(wire_Unpack.f k l0 a1).bind λbt167=>(if bt167.2.2=0 then(some (bt167.1,(bt167.2.1 == (l0.length:Int)))) else(some (bt167.1,false)))
theorem event_whole.mono:∀ a0 a1 k,LeO (event_whole.f k a0 a1) (event_whole.f (k+1) a0 a1):=by
 intro a0 a1 k
 unfold event_whole.f
 repeat' first
  | (with_reducible exact wire_Unpack.mono _ _ _)
  | (with_reducible exact LeO.refl _)
  | (with_reducible exact LeO.none _)
  | (with_reducible refine LeO.ite ?_ ?_)
  | (with_reducible refine LeO.bind ?_ (λ_=>?_))
theorem event_whole.calls (k:Nat) (A0:Option Addr) (c0:Nat) (l0:List Int) (a1:Int) (r1:List (List Int)) (r2:Bool) (w:World) (hr0:Kd.C (Kd.int .u8) w A0 l0.length l0) (hc0:l0.length<=c0) (h:event_whole.f k l0 a1=some (r1,r2)) :
  Calls Try.prog 49 #[.slice A0 l0.length c0,.int .i64 a1] w λe w'=>∃ v0_:Value,e = .returned (.tuple #[v0_,.bool r2])/\Kd.S (Kd.slice 5 (Kd.int .u8)) 22 w' w.heap.size (λ_=>True) v0_ r1/\Below w.heap.size w w':=by
 have HR0:=Aside0.mk hr0
 have HC0:=Aside0.mk hc0
 clear hr0 hc0
 have HB:=U (Below.refl w.heap.size w)
 have H:((wire_Unpack.f k l0 a1).bind λbt167=>(if bt167.2.2=0 then(some (bt167.1,(bt167.2.1 == (l0.length:Int)))) else(some (bt167.1,false))))=some (r1,r2):=h
 clear h
 replace H:=oB_ H
 obtain ⟨⟨t167,t168,t169⟩,A30,H⟩:=H
 replace H:(if t169=0 then(some (t167,(t168 == (l0.length:Int)))) else(some (t167,false)))=some (r1,r2):=H
 have A3:=Aside0.mk A30
 clear A30
 by_cases c4:t169=0
 rotate_left
 ·rw [if_neg c4] at H
  have c4b0:(t169 == 0)=false:=beq_eq_false_iff_ne.mpr c4
  have c4b1:(t169 != 0)=true:=bne_iff_ne.mpr c4
  simp only [Option.some.injEq,Prod.mk.injEq] at H
  obtain ⟨rfl,rfl⟩:=H
  go_enter Try.func49,Try.ntmps49
  go_wp2_with (first|((with_reducible refine gate_callee (f:=78) rfl ?_);refine goesL_ (some 12) rfl rfl Try.func78 (by kernel_rfl) rfl #[.slice A0 l0.length c0,.int .i64 a1] rfl z6_5 ?_;(with_reducible refine(wire_Unpack.calls k _ _ l0 a1 t167 t168 t169 _ ?side1 ?side2 A3.out).mono ?_);(case side1=>exact z6_2);(case side2=>exact HC0.out);rintro e w6 ⟨v170,rfl,ho0,hb⟩;refine ⟨_,rfl,?_⟩;have HO171:=U (Kd.S_lower ho0 (below_size z20_4));replace HB:=U (below_step z20_4 hb);(try clear hb);(try clear hb2);(try clear hk);(try clear hi);(try clear ho0)))
  go_ret2
  exact ⟨_,z20_1,(by(with_reducible repeat(first|apply Kd.S_alloc|apply Kd.S_drewN|apply Kd.S_drew));exact HO171.out),z20_4⟩
 rw [if_pos c4] at H
 have c4b0:(t169 == 0)=true:=beq_iff_eq.mpr c4
 have c4b1:(t169 != 0)=false:=bne_eq_false_iff_eq.mpr c4
 clear c4
 simp only [Option.some.injEq,Prod.mk.injEq] at H
 obtain ⟨rfl,rfl⟩:=H
 go_enter Try.func49,Try.ntmps49
 go_wp2_with (first|((with_reducible refine gate_callee (f:=78) rfl ?_);refine goesL_ (some 12) rfl rfl Try.func78 (by kernel_rfl) rfl #[.slice A0 l0.length c0,.int .i64 a1] rfl z6_5 ?_;(with_reducible refine(wire_Unpack.calls k _ _ l0 a1 t167 t168 t169 _ ?side1 ?side2 A3.out).mono ?_);(case side1=>exact z6_2);(case side2=>exact HC0.out);rintro e w5 ⟨v170,rfl,ho0,hb⟩;refine ⟨_,rfl,?_⟩;have HO171:=U (Kd.S_lower ho0 (below_size z20_4));replace HB:=U (below_step z20_4 hb);(try clear hb);(try clear hb2);(try clear hk);(try clear hi);(try clear ho0)))
 go_ret2
 exact ⟨_,z20_1,(by(with_reducible repeat(first|apply Kd.S_alloc|apply Kd.S_drewN|apply Kd.S_drew));exact HO171.out),z20_4⟩
def event_ints.l0:Nat->List Int->List (List Int)->Int->Int->Option (List Int×Bool)
 | 0,_,_,_,_=>none
 | k+1,x4,x10,x11,x12=>if x12<x11 then(if 0<=x12 then(if x12<(x10.length:Int) then((wire_GetNum.f k (rd_L10 x10 x12)).bind λbt173=>(if bt173.2.2=0 then(if bt173.2.1=((rd_L10 x10 x12).length:Int) then(if bt173.1 > 1048576 then(some (([]:List Int),false)) else(if x4.length<17592186044416 then(event_ints.l0 k (x4++[wrap64 (bt173.1)]) x10 x11 (wrap64 (x12+1))) else(none))) else(some (([]:List Int),false))) else(some (([]:List Int),false)))) else(none)) else(none)) else(some (x4,true))
def event_ints.f (k:Nat) (l0:List (List Int)):Option (List Int×Bool):=event_ints.l0 k ([]:List Int) l0 (l0.length:Int) 0
theorem event_ints.mono_l:∀ k,(∀ y0 y1 y2 y3,LeO (event_ints.l0 k y0 y1 y2 y3) (event_ints.l0 (k+1) y0 y1 y2 y3))
 | 0=>λ_ _ _ _ r h=>by simp [event_ints.l0] at h
 | k+1=>by
  have ih0:=event_ints.mono_l k
  ·intro y0 y1 y2 y3
   unfold event_ints.l0
   repeat' first
   | (with_reducible exact ih0 _ _ _ _)
   | (with_reducible exact wire_GetNum.mono _ _)
   | (with_reducible exact LeO.refl _)
   | (with_reducible exact LeO.none _)
   | (with_reducible refine LeO.ite ?_ ?_)
   | (with_reducible refine LeO.bind ?_ (λ_=>?_))
theorem event_ints.mono:∀ a0 k,LeO (event_ints.f k a0) (event_ints.f (k+1) a0):=by
 intro a0 k
 have ih0:=event_ints.mono_l k
 unfold event_ints.f
 repeat' first
  | (with_reducible exact ih0 _ _ _ _)
  | (with_reducible exact wire_GetNum.mono _ _)
  | (with_reducible exact LeO.refl _)
  | (with_reducible exact LeO.none _)
  | (with_reducible refine LeO.ite ?_ ?_)
  | (with_reducible refine LeO.bind ?_ (λ_=>?_))
theorem event_ints.calls (k:Nat) (A0:Option Addr) (c0:Nat) (l0:List (List Int)) (r1:List Int) (r2:Bool) (w:World) (hr0:Kd.C (Kd.slice 5 (Kd.int .u8)) w A0 l0.length l0) (hc0:l0.length<=c0) (h:event_ints.f k l0=some (r1,r2)) :
  Calls Try.prog 50 #[.slice A0 l0.length c0] w λe w'=>∃ v0_:Value,e = .returned (.tuple #[v0_,.bool r2])/\Kd.R (Kd.int .i64) 3 w' w.heap.size (λ_=>True) v0_ r1/\Below w.heap.size w w':=by
 have HR0:=Aside0.mk hr0
 have HC0:=Aside0.mk hc0
 clear hr0 hc0
 have HB:=U (Below.refl w.heap.size w)
 have H:(event_ints.l0 k ([]:List Int) l0 (l0.length:Int) 0)=some (r1,r2):=h
 clear h
 have H':=Aside0.mk H
 clear H
 go_enter Try.func50,Try.ntmps50
 go_wp2
 go_loopg [4,12] k (λkq v4 v12 w'=>∃ (x4_1:List Int) (x12_1:Int),v12 = .int .i64 x12_1/\Aside0 (event_ints.l0 kq x4_1 l0 (l0.length:Int) x12_1=some (r1,r2))/\Aside0 (kq<=k)/\Aside0 (Kd.R (Kd.int .i64) 3 w' w.heap.size (λ_=>True) v4 x4_1)/\Aside0 (Below w.heap.size w w'))
 case atStart=>exact ⟨(([]:List Int)),(0),z20_3,H',⟨Nat.le_refl _⟩,⟨z6_7⟩,⟨z20_4⟩⟩
 case round =>
 clear H'
 obtain ⟨x4_1,x12_1,rfl,HA,HK1,HO_4,HB⟩:=hrel
 cases gk with
 | zero=>exact absurd HA.out (by simp [event_ints.l0])
 | succ k1 =>
 have H:=HA.out
 clear HA
 simp only [event_ints.l0] at H
 by_cases c2:x12_1<(l0.length:Int)
 rotate_left
 ·rw [if_neg c2] at H
  have c2b0:decide (x12_1<(l0.length:Int))=false:=dF_ c2
  clear c2
  simp only [Option.some.injEq,Prod.mk.injEq] at H
  obtain ⟨rfl,rfl⟩:=H
  go_wp2
  go_ret2
  exact ⟨_,z20_1,(by(with_reducible repeat(first|apply Kd.R_alloc|apply Kd.R_drewN|apply Kd.R_drew));exact HO_4.out),z20_4⟩
 rw [if_pos c2] at H
 have c2b0:decide (x12_1<(l0.length:Int))=true:=dT_ c2
 clear c2
 by_cases c3:0<=x12_1
 rotate_left
 ·rw [if_neg c3] at H
  exact absurd H (by simp)
 rw [if_pos c3] at H
 have c3b0:decide (0<=x12_1)=true:=dT_ c3
 clear c3
 by_cases c4:x12_1<(l0.length:Int)
 rotate_left
 ·rw [if_neg c4] at H
  exact absurd H (by simp)
 rw [if_pos c4] at H
 have c4b0:decide (x12_1<(l0.length:Int))=true:=dT_ c4
 clear c4
 replace H:=oB_ H
 obtain ⟨⟨t173,t174,t175⟩,A50,H⟩:=H
 replace H:(if t175=0 then(if t174=((rd_L10 l0 x12_1).length:Int) then(if t173 > 1048576 then(some (([]:List Int),false)) else(if x4_1.length<17592186044416 then(event_ints.l0 k1 (x4_1++[wrap64 (t173)]) l0 (l0.length:Int) (wrap64 (x12_1+1))) else(none))) else(some (([]:List Int),false))) else(some (([]:List Int),false)))=some (r1,r2):=H
 have A5:=Aside0.mk A50
 clear A50
 by_cases c6:t175=0
 rotate_left
 ·rw [if_neg c6] at H
  have c6b0:(t175 == 0)=false:=beq_eq_false_iff_ne.mpr c6
  have c6b1:(t175 != 0)=true:=bne_iff_ne.mpr c6
  simp only [Option.some.injEq,Prod.mk.injEq] at H
  obtain ⟨rfl,rfl⟩:=H
  have p172:0<=(x12_1:Int):=oD_ z6_1
  have q172:x12_1<(l0.length:Int):=oD_ z6_1
  obtain ⟨ad172,A172_0,c172_0,e172,hx172_0,hl172_0,hi172_0⟩:=at_L10 HR0.out x12_1 p172 q172
  cases e172
  replace hx172_0:=(HB.out.cell (World.block_lt_of_cell? w _ hx172_0)).trans hx172_0
  have HR172_0:=Aside0.mk hi172_0
  have HC172_0:=Aside0.mk hl172_0
  clear hi172_0 hl172_0
  replace p172:=eq_true p172
  replace q172:=eq_true q172
  go_wp2_with (first|((with_reducible refine gate_callee (f:=86) rfl ?_);refine goesL_ (some 18) rfl rfl Try.func86 (by kernel_rfl) rfl #[.slice A172_0 (rd_L10 l0 x12_1).length c172_0] rfl z6_5 ?_;(with_reducible refine(wire_GetNum.calls k1 _ _ (rd_L10 l0 x12_1) t173 t174 t175 _ ?side1 ?side2 A5.out).mono ?_);(case side1=>exact z7_7);(case side2=>exact HC172_0.out);rintro e w' ⟨rfl,⟨nd,rfl⟩⟩;refine ⟨_,rfl,?_⟩))
  go_ret2
  exact ⟨_,z20_1,z6_7,z20_4⟩
 rw [if_pos c6] at H
 have c6b0:(t175 == 0)=true:=beq_iff_eq.mpr c6
 have c6b1:(t175 != 0)=false:=bne_eq_false_iff_eq.mpr c6
 clear c6
 by_cases c7:t174=((rd_L10 l0 x12_1).length:Int)
 rotate_left
 ·rw [if_neg c7] at H
  have c7b0:(t174 == ((rd_L10 l0 x12_1).length:Int))=false:=beq_eq_false_iff_ne.mpr c7
  have c7b1:(t174 != ((rd_L10 l0 x12_1).length:Int))=true:=bne_iff_ne.mpr c7
  simp only [Option.some.injEq,Prod.mk.injEq] at H
  obtain ⟨rfl,rfl⟩:=H
  have p172:0<=(x12_1:Int):=oD_ z6_1
  have q172:x12_1<(l0.length:Int):=oD_ z6_1
  obtain ⟨ad172,A172_0,c172_0,e172,hx172_0,hl172_0,hi172_0⟩:=at_L10 HR0.out x12_1 p172 q172
  cases e172
  replace hx172_0:=(HB.out.cell (World.block_lt_of_cell? w _ hx172_0)).trans hx172_0
  have HR172_0:=Aside0.mk hi172_0
  have HC172_0:=Aside0.mk hl172_0
  clear hi172_0 hl172_0
  replace p172:=eq_true p172
  replace q172:=eq_true q172
  go_wp2_with (first|((with_reducible refine gate_callee (f:=86) rfl ?_);refine goesL_ (some 18) rfl rfl Try.func86 (by kernel_rfl) rfl #[.slice A172_0 (rd_L10 l0 x12_1).length c172_0] rfl z6_5 ?_;(with_reducible refine(wire_GetNum.calls k1 _ _ (rd_L10 l0 x12_1) t173 t174 t175 _ ?side1 ?side2 A5.out).mono ?_);(case side1=>exact z7_7);(case side2=>exact HC172_0.out);rintro e w' ⟨rfl,⟨nd,rfl⟩⟩;refine ⟨_,rfl,?_⟩))
  go_ret2
  exact ⟨_,z20_1,z6_7,z20_4⟩
 rw [if_pos c7] at H
 have c7b0:(t174 == ((rd_L10 l0 x12_1).length:Int))=true:=beq_iff_eq.mpr c7
 have c7b1:(t174 != ((rd_L10 l0 x12_1).length:Int))=false:=bne_eq_false_iff_eq.mpr c7
 clear c7
 by_cases c8:t173 > 1048576
 ·rw [if_pos c8] at H
  have c8b0:decide (1048576<t173)=true:=dT_ c8
  clear c8
  simp only [Option.some.injEq,Prod.mk.injEq] at H
  obtain ⟨rfl,rfl⟩:=H
  have p172:0<=(x12_1:Int):=oD_ z6_1
  have q172:x12_1<(l0.length:Int):=oD_ z6_1
  obtain ⟨ad172,A172_0,c172_0,e172,hx172_0,hl172_0,hi172_0⟩:=at_L10 HR0.out x12_1 p172 q172
  cases e172
  replace hx172_0:=(HB.out.cell (World.block_lt_of_cell? w _ hx172_0)).trans hx172_0
  have HR172_0:=Aside0.mk hi172_0
  have HC172_0:=Aside0.mk hl172_0
  clear hi172_0 hl172_0
  replace p172:=eq_true p172
  replace q172:=eq_true q172
  go_wp2_with (first|((with_reducible refine gate_callee (f:=86) rfl ?_);refine goesL_ (some 18) rfl rfl Try.func86 (by kernel_rfl) rfl #[.slice A172_0 (rd_L10 l0 x12_1).length c172_0] rfl z6_5 ?_;(with_reducible refine(wire_GetNum.calls k1 _ _ (rd_L10 l0 x12_1) t173 t174 t175 _ ?side1 ?side2 A5.out).mono ?_);(case side1=>exact z7_7);(case side2=>exact HC172_0.out);rintro e w' ⟨rfl,⟨nd,rfl⟩⟩;refine ⟨_,rfl,?_⟩))
  go_ret2
  exact ⟨_,z20_1,z6_7,z20_4⟩
 rw [if_neg c8] at H
 have c8b0:decide (1048576<t173)=false:=dF_ c8
 clear c8
 by_cases c9:x4_1.length<17592186044416
 rotate_left
 ·rw [if_neg c9] at H
  exact absurd H (by simp)
 rw [if_pos c9] at H
 have LMc9:=Aside0.mk c9
 clear c9
 obtain ⟨y176,hy176⟩:∃ y_:List Int,y_=(x4_1++[wrap64 (t173)]):=⟨_,rfl⟩
 replace H:(event_ints.l0 k1 y176 l0 (l0.length:Int) (wrap64 (x12_1+1)))=some (r1,r2):=by first|(rw [hy176];with_reducible exact H)|(have H2_:=(Option.bind_some _ _).symm.trans H;rw [hy176];with_reducible exact H2_)|(have H2_:=(Option.bind_some _ _).symm.trans H;with_reducible exact H2_)|with_reducible exact H|(rw [hy176];exact H)|exact H
 have Ny176:=Aside0.mk hy176
 clear hy176
 have H':=Aside0.mk H
 clear H
 have p172:0<=(x12_1:Int):=oD_ z6_1
 have q172:x12_1<(l0.length:Int):=oD_ z6_1
 obtain ⟨ad172,A172_0,c172_0,e172,hx172_0,hl172_0,hi172_0⟩:=at_L10 HR0.out x12_1 p172 q172
 cases e172
 replace hx172_0:=(HB.out.cell (World.block_lt_of_cell? w _ hx172_0)).trans hx172_0
 have HR172_0:=Aside0.mk hi172_0
 have HC172_0:=Aside0.mk hl172_0
 clear hi172_0 hl172_0
 replace p172:=eq_true p172
 replace q172:=eq_true q172
 go_wp2_with (first|((with_reducible refine gate_callee (f:=86) rfl ?_);refine goesL_ (some 18) rfl rfl Try.func86 (by kernel_rfl) rfl #[.slice A172_0 (rd_L10 l0 x12_1).length c172_0] rfl z6_5 ?_;(with_reducible refine(wire_GetNum.calls k1 _ _ (rd_L10 l0 x12_1) t173 t174 t175 _ ?side1 ?side2 A5.out).mono ?_);(case side1=>exact z7_7);(case side2=>exact HC172_0.out);rintro e w' ⟨rfl,⟨nd,rfl⟩⟩;refine ⟨_,rfl,?_⟩)|((with_reducible refine gate_builtin (b:=.append) (xs:=#[.tmp 34,.tmp 37]) rfl ?_);(try(refine gate_guard (by rfl) ?_;dsimp only));at_builtin;refine Kd.R_append (Kd.int .i64) (w0:=w) w.heap.size rfl (.tmp 34) (.tmp 37) 26 3 (.int .i64 0) 8 rfl Try.underlying26 info3 rfl (by decide) (by omega) u4 x4_1 (wrap64 (t173)) [.int .i64 (wrap64 (t173))] (λ_=>True) (λ_=>False) rfl rfl ?aP (λ_ hk=>hk.elim) ?aF ?aO ?aB ?aS ?aL ?_;(case aP=>exact rfl);(case aB=>exact z20_4);(case aF=>exact(λ_ _=>trivial));(case aO=>exact(by(with_reducible repeat(first|apply Kd.R_alloc|apply Kd.R_drewN|apply Kd.R_drew));exact HO_4.out));(case aS=>exact(below_size z20_4));(case aL=>have:=LMc9.out;omega);intro v177 w10 ho hb hg hat;rw [<-Ny176.out] at ho;replace HB:=U (hb);have HO178:=U (ho);clear HO_4;clear ho hb hg hat))
 go_roundg k1
 case measure=>have:=HK1.out;omega
 case rel=>exact ⟨(y176),(wrap64 (x12_1+1)),z20_3,H',⟨(by have:=HK1.out;omega)⟩,⟨(by(with_reducible repeat(first|apply Kd.R_alloc|apply Kd.R_drewN|apply Kd.R_drew));exact HO178.out)⟩,⟨z20_4⟩⟩
def clock_Read.l0:Nat->Int->List Int->List (List Int)->Int->Int->Option (List Int×Int×Int)
 | 0,_,_,_,_,_=>none
 | k+1,x6,x8,x23,x24,x25=>if x25<x24 then(if 0<=x25 then(if x25<(x23.length:Int) then((wire_GetNum.f k (rd_L10 x23 x25)).bind λbt185=>(if bt185.2.2=0 then(if bt185.2.1=((rd_L10 x23 x25).length:Int) then(if bt185.1 > 1048576 then(some (([]:List Int),0,2)) else(if x8.length<17592186044416 then(clock_Read.l0 k x6 (x8++[wrap64 (bt185.1)]) x23 x24 (wrap64 (x25+1))) else(none))) else(some (([]:List Int),0,2))) else(some (([]:List Int),0,2)))) else(none)) else(none)) else((clock_Plain.f x8).bind λt191=>(if (t191.length:Int)=(x8.length:Int) then(some (x8,x6,0)) else(some (([]:List Int),0,2))))
def clock_Read.f (k:Nat) (l0:List Int):Option (List Int×Int×Int):=(wire_Unpack.f k l0 5).bind λbt179=>(if bt179.2.2=0 then(clock_Read.l0 k bt179.2.1 ([]:List Int) bt179.1 (bt179.1.length:Int) 0) else(some (([]:List Int),0,bt179.2.2)))
theorem clock_Read.mono_l:∀ k,(∀ y0 y1 y2 y3 y4,LeO (clock_Read.l0 k y0 y1 y2 y3 y4) (clock_Read.l0 (k+1) y0 y1 y2 y3 y4))
 | 0=>λ_ _ _ _ _ r h=>by simp [clock_Read.l0] at h
 | k+1=>by
  have ih0:=clock_Read.mono_l k
  ·intro y0 y1 y2 y3 y4
   unfold clock_Read.l0
   repeat' first
   | (with_reducible exact ih0 _ _ _ _ _)
   | (with_reducible exact wire_GetNum.mono _ _)
   | (with_reducible exact wire_Unpack.mono _ _ _)
   | (with_reducible exact LeO.refl _)
   | (with_reducible exact LeO.none _)
   | (with_reducible refine LeO.ite ?_ ?_)
   | (with_reducible refine LeO.bind ?_ (λ_=>?_))
theorem clock_Read.mono:∀ a0 k,LeO (clock_Read.f k a0) (clock_Read.f (k+1) a0):=by
 intro a0 k
 have ih0:=clock_Read.mono_l k
 unfold clock_Read.f
 repeat' first
  | (with_reducible exact ih0 _ _ _ _ _)
  | (with_reducible exact wire_GetNum.mono _ _)
  | (with_reducible exact wire_Unpack.mono _ _ _)
  | (with_reducible exact LeO.refl _)
  | (with_reducible exact LeO.none _)
  | (with_reducible refine LeO.ite ?_ ?_)
  | (with_reducible refine LeO.bind ?_ (λ_=>?_))
theorem clock_Read.calls (k:Nat) (A0:Option Addr) (c0:Nat) (l0:List Int) (r1:List Int) (r2:Int) (r3:Int) (w:World) (hr0:Kd.C (Kd.int .u8) w A0 l0.length l0) (hc0:l0.length<=c0) (h:clock_Read.f k l0=some (r1,r2,r3)) :
  Calls Try.prog 51 #[.slice A0 l0.length c0] w λe w'=>∃ v0_:Value,e = .returned (.tuple #[v0_,.int .i64 r2,.int .i64 r3])/\Kd.R (Kd.int .i64) 3 w' w.heap.size (λ_=>True) v0_ r1/\Below w.heap.size w w':=by
 have HR0:=Aside0.mk hr0
 have HC0:=Aside0.mk hc0
 clear hr0 hc0
 have HB:=U (Below.refl w.heap.size w)
 have H:((wire_Unpack.f k l0 5).bind λbt179=>(if bt179.2.2=0 then(clock_Read.l0 k bt179.2.1 ([]:List Int) bt179.1 (bt179.1.length:Int) 0) else(some (([]:List Int),0,bt179.2.2))))=some (r1,r2,r3):=h
 clear h
 replace H:=oB_ H
 obtain ⟨⟨t179,t180,t181⟩,A20,H⟩:=H
 replace H:(if t181=0 then(clock_Read.l0 k t180 ([]:List Int) t179 (t179.length:Int) 0) else(some (([]:List Int),0,t181)))=some (r1,r2,r3):=H
 have A2:=Aside0.mk A20
 clear A20
 by_cases c3:t181=0
 rotate_left
 ·rw [if_neg c3] at H
  have c3b0:(t181 == 0)=false:=beq_eq_false_iff_ne.mpr c3
  have c3b1:(t181 != 0)=true:=bne_iff_ne.mpr c3
  simp only [Option.some.injEq,Prod.mk.injEq] at H
  obtain ⟨rfl,rfl,rfl⟩:=H
  go_enter Try.func51,Try.ntmps51
  go_wp2_with (first|((with_reducible refine gate_callee (f:=78) rfl ?_);refine goesL_ (some 16) rfl rfl Try.func78 (by kernel_rfl) rfl #[.slice A0 l0.length c0,.int .i64 5] rfl z6_5 ?_;(with_reducible refine(wire_Unpack.calls k _ _ l0 5 t179 t180 t181 _ ?side1 ?side2 A2.out).mono ?_);(case side1=>exact z6_2);(case side2=>exact HC0.out);rintro e w23 ⟨v182,rfl,ho0,hb⟩;refine ⟨_,rfl,?_⟩;have HO183:=U (Kd.S_lower ho0 (below_size z20_4));replace HB:=U (below_step z20_4 hb);(try clear hb);(try clear hb2);(try clear hk);(try clear hi);(try clear ho0)))
  go_ret3
  exact ⟨_,z20_1,z6_7,z20_4⟩
 rw [if_pos c3] at H
 have c3b0:(t181 == 0)=true:=beq_iff_eq.mpr c3
 have c3b1:(t181 != 0)=false:=bne_eq_false_iff_eq.mpr c3
 clear c3
 have H':=Aside0.mk H
 clear H
 go_enter Try.func51,Try.ntmps51
 go_wp2_with (first|((with_reducible refine gate_callee (f:=78) rfl ?_);refine goesL_ (some 16) rfl rfl Try.func78 (by kernel_rfl) rfl #[.slice A0 l0.length c0,.int .i64 5] rfl z6_5 ?_;(with_reducible refine(wire_Unpack.calls k _ _ l0 5 t179 t180 t181 _ ?side1 ?side2 A2.out).mono ?_);(case side1=>exact z6_2);(case side2=>exact HC0.out);rintro e w4 ⟨v182,rfl,ho0,hb⟩;refine ⟨_,rfl,?_⟩;have HO183:=U (Kd.S_lower ho0 (below_size z20_4));replace HB:=U (below_step z20_4 hb);(try clear hb);(try clear hb2);(try clear hk);(try clear hi);(try clear ho0);obtain ⟨Ao5,co5,eo5⟩:=Kd.S_slice HO183.out;subst eo5))
 go_loopg [8,25] k (λkq v8 v25 w'=>∃ (x8_1:List Int) (x25_1:Int),v25 = .int .i64 x25_1/\Aside0 (clock_Read.l0 kq t180 x8_1 t179 (t179.length:Int) x25_1=some (r1,r2,r3))/\Aside0 (kq<=k)/\Aside0 (Kd.R (Kd.int .i64) 3 w' w.heap.size (λ_=>True) v8 x8_1)/\Aside0 (Kd.S (Kd.slice 5 (Kd.int .u8)) 22 w' w.heap.size (λ_=>True) (.slice Ao5 t179.length co5) t179)/\Aside0 (Below w.heap.size w w'))
 case atStart=>exact ⟨(([]:List Int)),(0),z20_3,H',⟨Nat.le_refl _⟩,⟨z6_7⟩,⟨(by(with_reducible repeat(first|apply Kd.S_alloc|apply Kd.S_drewN|apply Kd.S_drew));exact HO183.out)⟩,⟨z20_4⟩⟩
 case round =>
 clear H'
 try clear p2
 try clear c3
 try clear c3b0
 try clear c3b1
 try clear c5
 obtain ⟨x8_1,x25_1,rfl,HA,HK1,HO_8,HO_23,HB⟩:=hrel
 cases gk with
 | zero=>exact absurd HA.out (by simp [clock_Read.l0])
 | succ k1 =>
 have H:=HA.out
 clear HA
 simp only [clock_Read.l0] at H
 by_cases c6:x25_1<(t179.length:Int)
 rotate_left
 ·rw [if_neg c6] at H
  have c6b0:decide (x25_1<(t179.length:Int))=false:=dF_ c6
  clear c6
  replace H:=oB_ H
  obtain ⟨t191,A150,H⟩:=H
  replace H:(if (t191.length:Int)=(x8_1.length:Int) then(some (x8_1,t180,0)) else(some (([]:List Int),0,2)))=some (r1,r2,r3):=H
  have A15:=Aside0.mk A150
  clear A150
  by_cases c16:(t191.length:Int)=(x8_1.length:Int)
  rotate_left
  ·rw [if_neg c16] at H
   have c16b0:((t191.length:Int) == (x8_1.length:Int))=false:=beq_eq_false_iff_ne.mpr c16
   have c16b1:((t191.length:Int) != (x8_1.length:Int))=true:=bne_iff_ne.mpr c16
   have c16b2:(t191.length == x8_1.length)=false:=by first|simpa using c16|(simp at c16 ⊢;omega)
   simp only [Option.some.injEq,Prod.mk.injEq] at H
   obtain ⟨rfl,rfl,rfl⟩:=H
   obtain ⟨Ao20,co20,eo20⟩:=Kd.R_slice HO_8.out
   subst eo20
   go_wp2_with (first|((with_reducible refine gate_callee (f:=72) rfl ?_);refine goesL_ (some 54) rfl rfl Try.func72 (by kernel_rfl) rfl #[.slice Ao20 x8_1.length co20] rfl z6_5 ?_;(with_reducible refine(clock_Plain.calls _ _ x8_1 t191 _ ?side1 ?side2 A15.out).mono ?_);(case side1=>exact z7_16);(case side2=>exact(Kd.R_reads' HO_8.out).2.1);rintro e w21 ⟨v192,rfl,ho0,hb⟩;refine ⟨_,rfl,?_⟩;replace HO_23:=U (Kd.S_below z7_11 hb);have HO193:=U (Kd.R_lower (Kd.R_new' ho0 (Kd.R_lt z7_6)) (below_size z20_4));replace HO_8:=U (Kd.R_elder' z7_6 (Kd.R_base ho0) hb);replace HB:=U (below_step z20_4 hb);(try clear hb);(try clear hb2);(try clear hk);(try clear hi);(try clear ho0);obtain ⟨Ao22,co22,eo22⟩:=Kd.R_slice HO193.out;subst eo22))
   go_ret3
   exact ⟨_,z20_1,z6_7,z20_4⟩
  rw [if_pos c16] at H
  have c16b0:((t191.length:Int) == (x8_1.length:Int))=true:=beq_iff_eq.mpr c16
  have c16b1:((t191.length:Int) != (x8_1.length:Int))=false:=bne_eq_false_iff_eq.mpr c16
  have c16b2:(t191.length == x8_1.length)=true:=by first|simpa using c16|(simp at c16 ⊢;omega)
  clear c16
  simp only [Option.some.injEq,Prod.mk.injEq] at H
  obtain ⟨rfl,rfl,rfl⟩:=H
  obtain ⟨Ao17,co17,eo17⟩:=Kd.R_slice HO_8.out
  subst eo17
  go_wp2_with (first|((with_reducible refine gate_callee (f:=72) rfl ?_);refine goesL_ (some 54) rfl rfl Try.func72 (by kernel_rfl) rfl #[.slice Ao17 x8_1.length co17] rfl z6_5 ?_;(with_reducible refine(clock_Plain.calls _ _ x8_1 t191 _ ?side1 ?side2 A15.out).mono ?_);(case side1=>exact z7_16);(case side2=>exact(Kd.R_reads' HO_8.out).2.1);rintro e w18 ⟨v192,rfl,ho0,hb⟩;refine ⟨_,rfl,?_⟩;replace HO_23:=U (Kd.S_below z7_11 hb);have HO193:=U (Kd.R_lower (Kd.R_new' ho0 (Kd.R_lt z7_6)) (below_size z20_4));replace HO_8:=U (Kd.R_elder' z7_6 (Kd.R_base ho0) hb);replace HB:=U (below_step z20_4 hb);(try clear hb);(try clear hb2);(try clear hk);(try clear hi);(try clear ho0);obtain ⟨Ao19,co19,eo19⟩:=Kd.R_slice HO193.out;subst eo19))
  go_ret3
  exact ⟨_,z20_1,(by(with_reducible repeat(first|apply Kd.R_alloc|apply Kd.R_drewN|apply Kd.R_drew));exact Kd.R_mono HO_8.out (λ_ hk=>trivial)),z20_4⟩
 rw [if_pos c6] at H
 have c6b0:decide (x25_1<(t179.length:Int))=true:=dT_ c6
 clear c6
 by_cases c7:0<=x25_1
 rotate_left
 ·rw [if_neg c7] at H
  exact absurd H (by simp)
 rw [if_pos c7] at H
 have c7b0:decide (0<=x25_1)=true:=dT_ c7
 clear c7
 by_cases c8:x25_1<(t179.length:Int)
 rotate_left
 ·rw [if_neg c8] at H
  exact absurd H (by simp)
 rw [if_pos c8] at H
 have c8b0:decide (x25_1<(t179.length:Int))=true:=dT_ c8
 clear c8
 replace H:=oB_ H
 obtain ⟨⟨t185,t186,t187⟩,A90,H⟩:=H
 replace H:(if t187=0 then(if t186=((rd_L10 t179 x25_1).length:Int) then(if t185 > 1048576 then(some (([]:List Int),0,2)) else(if x8_1.length<17592186044416 then(clock_Read.l0 k1 t180 (x8_1++[wrap64 (t185)]) t179 (t179.length:Int) (wrap64 (x25_1+1))) else(none))) else(some (([]:List Int),0,2))) else(some (([]:List Int),0,2)))=some (r1,r2,r3):=H
 have A9:=Aside0.mk A90
 clear A90
 by_cases c10:t187=0
 rotate_left
 ·rw [if_neg c10] at H
  have c10b0:(t187 == 0)=false:=beq_eq_false_iff_ne.mpr c10
  have c10b1:(t187 != 0)=true:=bne_iff_ne.mpr c10
  simp only [Option.some.injEq,Prod.mk.injEq] at H
  obtain ⟨rfl,rfl,rfl⟩:=H
  have p184:0<=(x25_1:Int):=oD_ z6_1
  have q184:x25_1<(t179.length:Int):=oD_ z6_1
  obtain ⟨ad184,A184_0,c184_0,e184,hx184_0,hl184_0,hi184_0⟩:=at_L10 (Kd.S_reads' HO_23.out).2.2 x25_1 p184 q184
  cases e184
  obtain ⟨ce184,hce184,hMe184,hcc184⟩:=Kd.S_get HO_23.out [] x25_1 p184 z7_12
  obtain ⟨ve184_0,rfl,ge184_0⟩:=hMe184
  have hv184_0:=hcc184 0 _ rfl
  rw [Nat.add_zero,show((Kd.slice 5 (Kd.int .u8))).sz=1 from rfl,Nat.mul_one] at hv184_0
  replace hv184_0:=sI_ (hv184_0.symm.trans hx184_0)
  rw [hv184_0] at ge184_0
  have HL184_0:=U (show Kd.R (Kd.int .u8) 5 _ _ _ _ (rd_L10 t179 x25_1) from ge184_0)
  clear hv184_0 ge184_0
  clear hcc184 hce184
  have HR184_0:=Aside0.mk hi184_0
  have HC184_0:=Aside0.mk hl184_0
  clear hi184_0 hl184_0
  replace p184:=eq_true p184
  replace q184:=eq_true q184
  go_wp2_with (first|((with_reducible refine gate_callee (f:=86) rfl ?_);refine goesL_ (some 31) rfl rfl Try.func86 (by kernel_rfl) rfl #[.slice A184_0 (rd_L10 t179 x25_1).length c184_0] rfl z6_5 ?_;(with_reducible refine(wire_GetNum.calls k1 _ _ (rd_L10 t179 x25_1) t185 t186 t187 _ ?side1 ?side2 A9.out).mono ?_);(case side1=>exact z7_4);(case side2=>exact HC184_0.out);rintro e w' ⟨rfl,⟨nd,rfl⟩⟩;refine ⟨_,rfl,?_⟩))
  go_ret3
  exact ⟨_,z20_1,z6_7,z20_4⟩
 rw [if_pos c10] at H
 have c10b0:(t187 == 0)=true:=beq_iff_eq.mpr c10
 have c10b1:(t187 != 0)=false:=bne_eq_false_iff_eq.mpr c10
 clear c10
 by_cases c11:t186=((rd_L10 t179 x25_1).length:Int)
 rotate_left
 ·rw [if_neg c11] at H
  have c11b0:(t186 == ((rd_L10 t179 x25_1).length:Int))=false:=beq_eq_false_iff_ne.mpr c11
  have c11b1:(t186 != ((rd_L10 t179 x25_1).length:Int))=true:=bne_iff_ne.mpr c11
  simp only [Option.some.injEq,Prod.mk.injEq] at H
  obtain ⟨rfl,rfl,rfl⟩:=H
  have p184:0<=(x25_1:Int):=oD_ z6_1
  have q184:x25_1<(t179.length:Int):=oD_ z6_1
  obtain ⟨ad184,A184_0,c184_0,e184,hx184_0,hl184_0,hi184_0⟩:=at_L10 (Kd.S_reads' HO_23.out).2.2 x25_1 p184 q184
  cases e184
  obtain ⟨ce184,hce184,hMe184,hcc184⟩:=Kd.S_get HO_23.out [] x25_1 p184 z7_12
  obtain ⟨ve184_0,rfl,ge184_0⟩:=hMe184
  have hv184_0:=hcc184 0 _ rfl
  rw [Nat.add_zero,show((Kd.slice 5 (Kd.int .u8))).sz=1 from rfl,Nat.mul_one] at hv184_0
  replace hv184_0:=sI_ (hv184_0.symm.trans hx184_0)
  rw [hv184_0] at ge184_0
  have HL184_0:=U (show Kd.R (Kd.int .u8) 5 _ _ _ _ (rd_L10 t179 x25_1) from ge184_0)
  clear hv184_0 ge184_0
  clear hcc184 hce184
  have HR184_0:=Aside0.mk hi184_0
  have HC184_0:=Aside0.mk hl184_0
  clear hi184_0 hl184_0
  replace p184:=eq_true p184
  replace q184:=eq_true q184
  go_wp2_with (first|((with_reducible refine gate_callee (f:=86) rfl ?_);refine goesL_ (some 31) rfl rfl Try.func86 (by kernel_rfl) rfl #[.slice A184_0 (rd_L10 t179 x25_1).length c184_0] rfl z6_5 ?_;(with_reducible refine(wire_GetNum.calls k1 _ _ (rd_L10 t179 x25_1) t185 t186 t187 _ ?side1 ?side2 A9.out).mono ?_);(case side1=>exact z7_4);(case side2=>exact HC184_0.out);rintro e w' ⟨rfl,⟨nd,rfl⟩⟩;refine ⟨_,rfl,?_⟩))
  go_ret3
  exact ⟨_,z20_1,z6_7,z20_4⟩
 rw [if_pos c11] at H
 have c11b0:(t186 == ((rd_L10 t179 x25_1).length:Int))=true:=beq_iff_eq.mpr c11
 have c11b1:(t186 != ((rd_L10 t179 x25_1).length:Int))=false:=bne_eq_false_iff_eq.mpr c11
 clear c11
 by_cases c12:t185 > 1048576
 ·rw [if_pos c12] at H
  have c12b0:decide (1048576<t185)=true:=dT_ c12
  clear c12
  simp only [Option.some.injEq,Prod.mk.injEq] at H
  obtain ⟨rfl,rfl,rfl⟩:=H
  have p184:0<=(x25_1:Int):=oD_ z6_1
  have q184:x25_1<(t179.length:Int):=oD_ z6_1
  obtain ⟨ad184,A184_0,c184_0,e184,hx184_0,hl184_0,hi184_0⟩:=at_L10 (Kd.S_reads' HO_23.out).2.2 x25_1 p184 q184
  cases e184
  obtain ⟨ce184,hce184,hMe184,hcc184⟩:=Kd.S_get HO_23.out [] x25_1 p184 z7_12
  obtain ⟨ve184_0,rfl,ge184_0⟩:=hMe184
  have hv184_0:=hcc184 0 _ rfl
  rw [Nat.add_zero,show((Kd.slice 5 (Kd.int .u8))).sz=1 from rfl,Nat.mul_one] at hv184_0
  replace hv184_0:=sI_ (hv184_0.symm.trans hx184_0)
  rw [hv184_0] at ge184_0
  have HL184_0:=U (show Kd.R (Kd.int .u8) 5 _ _ _ _ (rd_L10 t179 x25_1) from ge184_0)
  clear hv184_0 ge184_0
  clear hcc184 hce184
  have HR184_0:=Aside0.mk hi184_0
  have HC184_0:=Aside0.mk hl184_0
  clear hi184_0 hl184_0
  replace p184:=eq_true p184
  replace q184:=eq_true q184
  go_wp2_with (first|((with_reducible refine gate_callee (f:=86) rfl ?_);refine goesL_ (some 31) rfl rfl Try.func86 (by kernel_rfl) rfl #[.slice A184_0 (rd_L10 t179 x25_1).length c184_0] rfl z6_5 ?_;(with_reducible refine(wire_GetNum.calls k1 _ _ (rd_L10 t179 x25_1) t185 t186 t187 _ ?side1 ?side2 A9.out).mono ?_);(case side1=>exact z7_4);(case side2=>exact HC184_0.out);rintro e w' ⟨rfl,⟨nd,rfl⟩⟩;refine ⟨_,rfl,?_⟩))
  go_ret3
  exact ⟨_,z20_1,z6_7,z20_4⟩
 rw [if_neg c12] at H
 have c12b0:decide (1048576<t185)=false:=dF_ c12
 clear c12
 by_cases c13:x8_1.length<17592186044416
 rotate_left
 ·rw [if_neg c13] at H
  exact absurd H (by simp)
 rw [if_pos c13] at H
 have LMc13:=Aside0.mk c13
 clear c13
 obtain ⟨y188,hy188⟩:∃ y_:List Int,y_=(x8_1++[wrap64 (t185)]):=⟨_,rfl⟩
 replace H:(clock_Read.l0 k1 t180 y188 t179 (t179.length:Int) (wrap64 (x25_1+1)))=some (r1,r2,r3):=by first|(rw [hy188];with_reducible exact H)|(have H2_:=(Option.bind_some _ _).symm.trans H;rw [hy188];with_reducible exact H2_)|(have H2_:=(Option.bind_some _ _).symm.trans H;with_reducible exact H2_)|with_reducible exact H|(rw [hy188];exact H)|exact H
 have Ny188:=Aside0.mk hy188
 clear hy188
 have H':=Aside0.mk H
 clear H
 have p184:0<=(x25_1:Int):=oD_ z6_1
 have q184:x25_1<(t179.length:Int):=oD_ z6_1
 obtain ⟨ad184,A184_0,c184_0,e184,hx184_0,hl184_0,hi184_0⟩:=at_L10 (Kd.S_reads' HO_23.out).2.2 x25_1 p184 q184
 cases e184
 obtain ⟨ce184,hce184,hMe184,hcc184⟩:=Kd.S_get HO_23.out [] x25_1 p184 z7_12
 obtain ⟨ve184_0,rfl,ge184_0⟩:=hMe184
 have hv184_0:=hcc184 0 _ rfl
 rw [Nat.add_zero,show((Kd.slice 5 (Kd.int .u8))).sz=1 from rfl,Nat.mul_one] at hv184_0
 replace hv184_0:=sI_ (hv184_0.symm.trans hx184_0)
 rw [hv184_0] at ge184_0
 have HL184_0:=U (show Kd.R (Kd.int .u8) 5 _ _ _ _ (rd_L10 t179 x25_1) from ge184_0)
 clear hv184_0 ge184_0
 clear hcc184 hce184
 have HR184_0:=Aside0.mk hi184_0
 have HC184_0:=Aside0.mk hl184_0
 clear hi184_0 hl184_0
 replace p184:=eq_true p184
 replace q184:=eq_true q184
 go_wp2_with (first|((with_reducible refine gate_callee (f:=86) rfl ?_);refine goesL_ (some 31) rfl rfl Try.func86 (by kernel_rfl) rfl #[.slice A184_0 (rd_L10 t179 x25_1).length c184_0] rfl z6_5 ?_;(with_reducible refine(wire_GetNum.calls k1 _ _ (rd_L10 t179 x25_1) t185 t186 t187 _ ?side1 ?side2 A9.out).mono ?_);(case side1=>exact z7_4);(case side2=>exact HC184_0.out);rintro e w' ⟨rfl,⟨nd,rfl⟩⟩;refine ⟨_,rfl,?_⟩)|((with_reducible refine gate_builtin (b:=.append) (xs:=#[.tmp 47,.tmp 50]) rfl ?_);(try(refine gate_guard (by rfl) ?_;dsimp only));at_builtin;refine Kd.R_append (Kd.int .i64) (w0:=w) w.heap.size rfl (.tmp 47) (.tmp 50) 27 3 (.int .i64 0) 8 rfl Try.underlying27 info3 rfl (by decide) (by omega) u8 x8_1 (wrap64 (t185)) [.int .i64 (wrap64 (t185))] (λ_=>True) (λ_=>False) rfl rfl ?aP (λ_ hk=>hk.elim) ?aF ?aO ?aB ?aS ?aL ?_;(case aP=>exact rfl);(case aB=>exact z20_4);(case aF=>exact(λ_ _=>trivial));(case aO=>exact z7_6);(case aS=>exact(below_size z20_4));(case aL=>have:=LMc13.out;omega);intro v189 w14 ho hb hg hat;rw [<-Ny188.out] at ho;replace HO_23:=U (Kd.S_over' z7_11 (Kd.R_typed z7_6) (by decide) hg);replace HL184_0:=U (Kd.R_over' (by(with_reducible repeat(first|apply Kd.R_alloc|apply Kd.R_drewN|apply Kd.R_drew));exact HL184_0.out) (Kd.R_typed z7_6) (by decide) hg);replace HB:=U (hb);have HO190:=U (ho);clear HO_8;clear ho hb hg hat))
 go_roundg k1
 case measure=>have:=HK1.out;omega
 case rel=>exact ⟨(y188),(wrap64 (x25_1+1)),z20_3,H',⟨(by have:=HK1.out;omega)⟩,⟨(by(with_reducible repeat(first|apply Kd.R_alloc|apply Kd.R_drewN|apply Kd.R_drew));exact HO190.out)⟩,⟨z7_11⟩,⟨z20_4⟩⟩
end Go.Proofs.Ytgocnchjpecafaa.PEv
