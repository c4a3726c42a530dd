/- a part -/
import Derived.Test.YtjpjdipdhakjnaaPStabx1
namespace Go.Proofs.Ytjpjdipdhakjnaa.PStab
open Go.RowKit Go.Proofs.YtjpjdipdhakjnaaW.PrintWords Go.Proofs.YtjpjdipdhakjnaaW.PrintLast Go.Proofs.YtjpjdipdhakjnaaW.PrintMore
attribute [local go_sem] max2_int min2_int max_two min_two max_three min_three max_four min_four
set_option linter.unusedVariables false
set_option linter.unusedSimpArgs false
set_option maxHeartbeats 8000000
set_option maxRecDepth 100000
theorem z2_1 {P:Prop} (h:P:=by(with_reducible repeat(first|apply Kd.R_alloc|apply Kd.R_drewN|apply Kd.R_drew));exact HO148.out):P:=h
theorem z2_2 {P:Prop} (h:P:=by(try simp only [List.map_toArray,List.map_cons,List.map_nil]);first|done|rfl|(simp only [List.length_drop,List.length_take];rfl)):P:=h
theorem z2_3 {P:Prop} (h:P:=by(with_reducible repeat(first|apply Kd.N_alloc|apply Kd.N_drewN|apply Kd.N_drew));exact HO145.out):P:=h
theorem z2_4 {P:Prop} (h:P:=by(with_reducible repeat(first|apply Kd.R_alloc|apply Kd.R_drewN|apply Kd.R_drew));exact HO151.out):P:=h
theorem z2_5 {P:Prop} (h:P:=by exact(Reps.one (show Kd.M (Kd.int .i64) _ _ _ 1 [.int .i64 1] from rfl) (Reps.one (show Kd.M (Kd.int .i64) _ _ _ 1 [.int .i64 1] from rfl) (Reps.none _ _)))):P:=h
theorem z2_6 {P:Prop} (h:P:=by(with_reducible repeat(first|apply Kd.R_alloc|apply Kd.R_drewN|apply Kd.R_drew));exact HO158.out):P:=h
theorem z2_7 {P:Prop} (h:P:=by(with_reducible repeat(first|apply Kd.N_alloc|apply Kd.N_drewN|apply Kd.N_drew));exact HO154.out):P:=h
theorem z2_8 {P:Prop} (h:P:=by(with_reducible repeat(first|apply Kd.R_alloc|apply Kd.R_drewN|apply Kd.R_drew));exact HO161.out):P:=h
theorem z2_9 {P:Prop} (h:P:=by repeat(first|exact(Kd.C_below HR1.out HB.out)|(with_reducible refine Kd.C_alloc ?_ _)|(with_reducible refine Kd.C_drewN ?_ _)|(with_reducible refine Kd.C_drew ?_))):P:=h
theorem z2_10 {P:Prop} (h:P:=by(with_reducible repeat(first|apply Kd.N_alloc|apply Kd.N_drewN|apply Kd.N_drew));exact HO_10.out):P:=h
theorem z2_11 {P:Prop} (h:P:=by repeat(first|exact HR0.out|(with_reducible refine Kd.C_alloc ?_ _)|(with_reducible refine Kd.C_drewN ?_ _)|(with_reducible refine Kd.C_drew ?_))):P:=h
theorem z2_12 {P:Prop} (h:P:=by first|(go_simp;done)|(go_simp;rfl)):P:=h
theorem z2_15 {P:Prop} (h:P:=by(with_reducible repeat(first|apply Kd.V_alloc|apply Kd.V_drewN|apply Kd.V_drew));exact HO_3.out):P:=h
theorem z2_16 {P:Prop} (h:P:=by repeat(first|exact(Kd.C_below HR0.out HB.out)|(with_reducible refine Kd.C_alloc ?_ _)|(with_reducible refine Kd.C_drewN ?_ _)|(with_reducible refine Kd.C_drew ?_))):P:=h
theorem z2_17 {P:Prop} (h:P:=by repeat(first|exact(Kd.N_reads' HO145.out).2.2|(with_reducible refine Kd.C_alloc ?_ _)|(with_reducible refine Kd.C_drewN ?_ _)|(with_reducible refine Kd.C_drew ?_))):P:=h
theorem z2_18 {P:Prop} (h:P:=by repeat(first|exact(Kd.R_reads' HO148.out).2.2|(with_reducible refine Kd.C_alloc ?_ _)|(with_reducible refine Kd.C_drewN ?_ _)|(with_reducible refine Kd.C_drew ?_))):P:=h
theorem z2_19 {P:Prop} (h:P:=by repeat(first|exact(Kd.N_reads' HO154.out).2.2|(with_reducible refine Kd.C_alloc ?_ _)|(with_reducible refine Kd.C_drewN ?_ _)|(with_reducible refine Kd.C_drew ?_))):P:=h
theorem z2_20 {P:Prop} (h:P:=by repeat(first|exact(Kd.R_reads' HO158.out).2.2|(with_reducible refine Kd.C_alloc ?_ _)|(with_reducible refine Kd.C_drewN ?_ _)|(with_reducible refine Kd.C_drew ?_))):P:=h
theorem z2_36 {P:Prop} (h:P:=by decide):P:=h
theorem z2_22 {P:Prop} (h:P:=by exact Kd.R_V (Kd.R_tight rfl (Kd.R_apart' (Kd.R_apart' (HO161.out) (Kd.N_typed HO145.out) z2_36) (Kd.N_typed HO154.out) z2_36))):P:=h
theorem z2_23 {P:Prop} (h:P:=by repeat(first|exact(Kd.V_reads' HO3.out).2.2|(with_reducible refine Kd.C_alloc ?_ _)|(with_reducible refine Kd.C_drewN ?_ _)|(with_reducible refine Kd.C_drew ?_))):P:=h
theorem z2_24 {P:Prop} (h:P:=by(with_reducible repeat(first|apply Kd.R_alloc|apply Kd.R_drewN|apply Kd.R_drew));exact HO168.out):P:=h
theorem z2_25 {P:Prop} (h:P:=by repeat(first|exact HR1.out|(with_reducible refine Kd.C_alloc ?_ _)|(with_reducible refine Kd.C_drewN ?_ _)|(with_reducible refine Kd.C_drew ?_))):P:=h
theorem z2_26 {P:Prop} (h:P:=by(with_reducible repeat(first|apply Kd.V_alloc|apply Kd.V_drewN|apply Kd.V_drew));exact HO3.out):P:=h
theorem z2_27 {P:Prop} (h:P:=by exact Kd.R_V (Kd.R_tight rfl (Kd.R_apart' (HO151.out) (Kd.N_typed HO145.out) z2_36))):P:=h
theorem z2_28 {P:Prop} (h:P:=by(with_reducible repeat(first|apply Kd.N_alloc|apply Kd.N_drewN|apply Kd.N_drew));exact HO164.out):P:=h
theorem z2_29 {P:Prop} (h:P:=by(with_reducible repeat(first|apply Kd.R_alloc|apply Kd.R_drewN|apply Kd.R_drew));exact HO_5.out):P:=h
theorem z2_30 {P:Prop} (h:P:=by repeat(first|(with_reducible exact HR126_0.out)|(with_reducible refine Kd.C_alloc ?_ _)|(with_reducible refine Kd.C_drewN ?_ _)|(with_reducible refine Kd.C_drew ?_)|exact HR126_0.out)):P:=h
theorem z2_31 {P:Prop} (h:P:=by kernel_rfl):P:=h
theorem z2_32 {P:Prop} (h:P:=by repeat(first|exact(Kd.V_reads' HO_3.out).2.2|(with_reducible refine Kd.C_alloc ?_ _)|(with_reducible refine Kd.C_drewN ?_ _)|(with_reducible refine Kd.C_drew ?_))):P:=h
theorem z2_35 {P:Prop} (h:P:=by(with_reducible repeat(first|apply Kd.N_alloc|apply Kd.N_drewN|apply Kd.N_drew));exact Kd.N_mono HO_10.out (λ_ hk=>hk.1)):P:=h
mutual
def stable_Learn.j0:Nat->List (List Int)->List Int->Int->List Int->Bool->Option ((List (List Int))×Int)
 | 0,_,_,_,_,_=>none
 | k+1,x0,x1,x2,x3,x31=>if x31=true then(some (([]:List (List Int)),1)) else(stable_Learn.l0 k x1 x2 x3 ([]:List (List Int)) x0 (x0.length:Int) 0)
def stable_Learn.l0:Nat->List Int->Int->List Int->List (List Int)->List (List Int)->Int->Int->Option ((List (List Int))×Int)
 | 0,_,_,_,_,_,_,_=>none
 | k+1,x1,x2,x3,x10,x32,x33,x34=>if x34<x33 then(if 0<=x34 then(if x34<(x32.length:Int) then((clock_Plain.f (rd_L1 x32 x34)).bind λt118=>(if x10.length<5864062014805 then(stable_Learn.l0 k x1 x2 x3 (x10++[t118]) x32 x33 (wrap64 (x34+1))) else(none))) else(none)) else(none)) else((clock_Get.f x1 x2).bind λt124=>((clock_Get.f x3 x2).bind λt125=>(if t124>=t125 then(if 0<=(wrap64 (x2 - 1)) then(if (wrap64 (x2 - 1))<(x10.length:Int) then((clock_Join.f (([rd_L1 x10 (wrap64 (x2 - 1)),x3]:List (List Int)))).bind λt130=>(some ((x10.set ((wrap64 (x2 - 1)):Int).toNat t130),0))) else(none)) else(none)) else(some (x10,0)))))
end
def stable_Learn.f (k:Nat) (l0:List (List Int)) (l1:List Int) (a2:Int) (l3:List Int):Option ((List (List Int))×Int):=(stable_may.f l0 l1).bind λt115=>(if t115=true then((clock_Check.f l3).bind λt116=>(if t116=0 then(if a2<1 then(stable_Learn.j0 k l0 l1 a2 l3 true) else(stable_Learn.j0 k l0 l1 a2 l3 (decide (a2 > (l0.length:Int))))) else(stable_Learn.j0 k l0 l1 a2 l3 true))) else(stable_Learn.j0 k l0 l1 a2 l3 true))
theorem stable_Learn.calls (k:Nat) (A0:Option Addr) (c0:Nat) (l0:List (List Int)) (A1:Option Addr) (c1:Nat) (l1:List Int) (a2:Int) (P3_:Nat->Prop) (A3:Option Addr) (c3:Nat) (l3:List Int) (r1:List (List Int)) (r2:Int) (w:World) (hr0:Kd.C (Kd.slice 3 (Kd.int .i64)) w A0 l0.length l0) (hc0:l0.length<=c0) (hr1:Kd.C (Kd.int .i64) w A1 l1.length l1) (hc1:l1.length<=c1) (hs3:Kd.V (Kd.int .i64) 3 w w.heap.size (λk_=>P3_ k_) (.slice A3 l3.length c3) l3) (h:stable_Learn.f k l0 l1 a2 l3=some (r1,r2)) :
  Calls Try.prog 36 #[.slice A0 l0.length c0,.slice A1 l1.length c1,.int .i64 a2,.slice A3 l3.length c3] w λe w'=>∃ v0_:Value,e = .returned (.tuple #[v0_,.int .i64 r2])/\Kd.N (Kd.slice 3 (Kd.int .i64)) 23 w' w.heap.size (λk_=>(P3_ k_\/w.heap.size<=k_)) v0_ r1/\Below w.heap.size w w':=by
 have HR0:=Aside0.mk hr0
 have HC0:=Aside0.mk hc0
 clear hr0 hc0
 have HR1:=Aside0.mk hr1
 have HC1:=Aside0.mk hc1
 clear hr1 hc1
 have HO3:=U (show Kd.V (Kd.int .i64) 3 w w.heap.size (λk_=>(P3_ k_\/w.heap.size<=k_)) (.slice A3 l3.length c3) l3 from Kd.V_mono hs3 (λk_ hk=>.inl hk))
 have HB:=U (Below.refl w.heap.size w)
 have H:((stable_may.f l0 l1).bind λt115=>(if t115=true then((clock_Check.f l3).bind λt116=>(if t116=0 then(if a2<1 then(stable_Learn.j0 k l0 l1 a2 l3 true) else(stable_Learn.j0 k l0 l1 a2 l3 (decide (a2 > (l0.length:Int))))) else(stable_Learn.j0 k l0 l1 a2 l3 true))) else(stable_Learn.j0 k l0 l1 a2 l3 true)))=some (r1,r2):=h
 clear h
 have HC5:=Aside0.mk H
 clear H
 go_enter Try.func36,Try.ntmps36
 go_upto_region 1 with (fail)
 go_cut [31] (λv31 wc=>∃ (kq:Nat) (x31_4:Bool),v31 = .bool x31_4/\Aside0 (stable_Learn.j0 kq l0 l1 a2 l3 x31_4=some (r1,r2))/\Aside0 (kq<=k)/\Aside0 (Kd.V (Kd.int .i64) 3 wc w.heap.size (λk_=>(P3_ k_\/w.heap.size<=k_)) (.slice A3 l3.length c3) l3)/\Aside0 (Below w.heap.size w wc))
 case first =>
  have H:=HC5.out
  clear HC5
  replace H:=oB_ H
  obtain ⟨t115,A60,H⟩:=H
  replace H:(if t115=true then((clock_Check.f l3).bind λt116=>(if t116=0 then(if a2<1 then(stable_Learn.j0 k l0 l1 a2 l3 true) else(stable_Learn.j0 k l0 l1 a2 l3 (decide (a2 > (l0.length:Int))))) else(stable_Learn.j0 k l0 l1 a2 l3 true))) else(stable_Learn.j0 k l0 l1 a2 l3 true))=some (r1,r2):=H
  have A6:=Aside0.mk A60
  clear A60
  by_cases c7:t115=true
  rotate_left
  ·replace c7:=Bool.eq_false_iff.mpr c7
   subst c7
   have H1:(stable_Learn.j0 k l0 l1 a2 l3 true)=some (r1,r2):=by rw [if_neg (show ¬ (false=true) by decide)] at H;exact H
   clear H
   have H:=H1
   clear H1
   have H':=Aside0.mk H
   clear H
   go_wp2_with (first|((with_reducible refine gate_callee (f:=52) rfl ?_);refine goesL_ (some 15) rfl rfl Try.func52 z2_31 rfl #[.slice A0 l0.length c0,.slice A1 l1.length c1] rfl z2_2 ?_;(with_reducible refine(stable_may.calls _ _ l0 _ _ l1 false _ ?side1 ?side2 ?side3 ?side4 A6.out).mono ?_);(case side1=>exact z2_16);(case side2=>exact HC0.out);(case side3=>exact z2_9);(case side4=>exact HC1.out);rintro e w' ⟨rfl,⟨nd,rfl⟩⟩;refine ⟨_,rfl,?_⟩))
   go_meet
   case rel=>exact ⟨_,(true),z1_3,H',⟨(by first|omega|exact Nat.le_refl _)⟩,⟨z2_26⟩,⟨z1_1⟩⟩
  subst c7
  have H1:((clock_Check.f l3).bind λt116=>(if t116=0 then(if a2<1 then(stable_Learn.j0 k l0 l1 a2 l3 true) else(stable_Learn.j0 k l0 l1 a2 l3 (decide (a2 > (l0.length:Int))))) else(stable_Learn.j0 k l0 l1 a2 l3 true)))=some (r1,r2):=by rw [if_pos rfl] at H;exact H
  clear H
  have H:=H1
  clear H1
  replace H:=oB_ H
  obtain ⟨t116,A80,H⟩:=H
  replace H:(if t116=0 then(if a2<1 then(stable_Learn.j0 k l0 l1 a2 l3 true) else(stable_Learn.j0 k l0 l1 a2 l3 (decide (a2 > (l0.length:Int))))) else(stable_Learn.j0 k l0 l1 a2 l3 true))=some (r1,r2):=H
  have A8:=Aside0.mk A80
  clear A80
  by_cases c9:t116=0
  rotate_left
  ·rw [if_neg c9] at H
   have c9b0:(t116 == 0)=false:=beq_eq_false_iff_ne.mpr c9
   have c9b1:(t116 != 0)=true:=bne_iff_ne.mpr c9
   (first|rw [c9b0]|(simp only [i64_w,i32_w];rw [c9b0])|skip)
   have H':=Aside0.mk H
   clear H
   go_wp2_with (first|((with_reducible refine gate_callee (f:=52) rfl ?_);refine goesL_ (some 15) rfl rfl Try.func52 z2_31 rfl #[.slice A0 l0.length c0,.slice A1 l1.length c1] rfl z2_2 ?_;(with_reducible refine(stable_may.calls _ _ l0 _ _ l1 true _ ?side1 ?side2 ?side3 ?side4 A6.out).mono ?_);(case side1=>exact z2_16);(case side2=>exact HC0.out);(case side3=>exact z2_9);(case side4=>exact HC1.out);rintro e w' ⟨rfl,⟨nd,rfl⟩⟩;refine ⟨_,rfl,?_⟩)|(go_at_call 26;(with_reducible refine(clock_Check.calls _ _ l3 t116 _ ?side1 ?side2 A8.out).mono ?_);(case side1=>exact z2_23);(case side2=>exact(Kd.V_reads' HO3.out).2.1);rintro e w' ⟨rfl,⟨nd,rfl⟩⟩))
   go_meet
   case rel=>exact ⟨_,(true),z1_3,H',⟨(by first|omega|exact Nat.le_refl _)⟩,⟨z2_26⟩,⟨z1_1⟩⟩
  rw [if_pos c9] at H
  have c9b0:(t116 == 0)=true:=beq_iff_eq.mpr c9
  have c9b1:(t116 != 0)=false:=bne_eq_false_iff_eq.mpr c9
  clear c9
  (first|rw [c9b0]|(simp only [i64_w,i32_w];rw [c9b0])|skip)
  by_cases c10:a2<1
  ·rw [if_pos c10] at H
   have c10b0:decide (a2<1)=true:=dT_ c10
   clear c10
   have H':=Aside0.mk H
   clear H
   go_wp2_with (first|((with_reducible refine gate_callee (f:=52) rfl ?_);refine goesL_ (some 15) rfl rfl Try.func52 z2_31 rfl #[.slice A0 l0.length c0,.slice A1 l1.length c1] rfl z2_2 ?_;(with_reducible refine(stable_may.calls _ _ l0 _ _ l1 true _ ?side1 ?side2 ?side3 ?side4 A6.out).mono ?_);(case side1=>exact z2_16);(case side2=>exact HC0.out);(case side3=>exact z2_9);(case side4=>exact HC1.out);rintro e w' ⟨rfl,⟨nd,rfl⟩⟩;refine ⟨_,rfl,?_⟩)|(go_at_call 26;(with_reducible refine(clock_Check.calls _ _ l3 t116 _ ?side1 ?side2 A8.out).mono ?_);(case side1=>exact z2_23);(case side2=>exact(Kd.V_reads' HO3.out).2.1);rintro e w' ⟨rfl,⟨nd,rfl⟩⟩))
   go_meet
   case rel=>exact ⟨_,(true),z1_3,H',⟨(by first|omega|exact Nat.le_refl _)⟩,⟨z2_26⟩,⟨z1_1⟩⟩
  rw [if_neg c10] at H
  have c10b0:decide (a2<1)=false:=dF_ c10
  clear c10
  have H':=Aside0.mk H
  clear H
  go_wp2_with (first|((with_reducible refine gate_callee (f:=52) rfl ?_);refine goesL_ (some 15) rfl rfl Try.func52 z2_31 rfl #[.slice A0 l0.length c0,.slice A1 l1.length c1] rfl z2_2 ?_;(with_reducible refine(stable_may.calls _ _ l0 _ _ l1 true _ ?side1 ?side2 ?side3 ?side4 A6.out).mono ?_);(case side1=>exact z2_16);(case side2=>exact HC0.out);(case side3=>exact z2_9);(case side4=>exact HC1.out);rintro e w' ⟨rfl,⟨nd,rfl⟩⟩;refine ⟨_,rfl,?_⟩)|(go_at_call 26;(with_reducible refine(clock_Check.calls _ _ l3 t116 _ ?side1 ?side2 A8.out).mono ?_);(case side1=>exact z2_23);(case side2=>exact(Kd.V_reads' HO3.out).2.1);rintro e w' ⟨rfl,⟨nd,rfl⟩⟩))
  go_meet
  case rel=>exact ⟨_,(decide (a2 > (l0.length:Int))),z1_3,H',⟨(by first|omega|exact Nat.le_refl _)⟩,⟨z2_26⟩,⟨z1_1⟩⟩
 case rest =>
 clear HC5
 try clear c1
 try clear p2
 try clear c3
 try clear c5
 try clear c7
 try clear c9
 try clear c9b0
 try clear c9b1
 try clear c10
 try clear c10b0
 obtain ⟨kq,x31_4,rfl,HA,HJ4,HO_3,HB⟩:=hcut
 cases kq with
 | zero=>exact absurd HA.out (by simp [stable_Learn.j0])
 | succ kj4 =>
 have H:=HA.out
 clear HA
 simp only [stable_Learn.j0] at H
 by_cases c11:x31_4=true
 ·subst c11
  have H1:(some (([]:List (List Int)),1))=some (r1,r2):=by rw [if_pos rfl] at H;exact H
  clear H
  have H:=H1
  clear H1
  simp only [Option.some.injEq,Prod.mk.injEq] at H
  obtain ⟨rfl,rfl⟩:=H
  go_wp2
  go_ret2
  exact ⟨_,z1_4,z1_5,z1_1⟩
 replace c11:=Bool.eq_false_iff.mpr c11
 subst c11
 have H1:(stable_Learn.l0 kj4 l1 a2 l3 ([]:List (List Int)) l0 (l0.length:Int) 0)=some (r1,r2):=by rw [if_neg (show ¬ (false=true) by decide)] at H;exact H
 clear H
 have H:=H1
 clear H1
 have H':=Aside0.mk H
 clear H
 go_wp2
 go_loopg [10,34] kj4 (λkq v10 v34 w'=>∃ (x10_2:List (List Int)) (x34_2:Int),v34 = .int .i64 x34_2/\Aside0 (stable_Learn.l0 kq l1 a2 l3 x10_2 l0 (l0.length:Int) x34_2=some (r1,r2))/\Aside0 (kq<=kj4)/\Aside0 (Kd.V (Kd.int .i64) 3 w' w.heap.size (λk_=>(P3_ k_\/w.heap.size<=k_)/\some k_≠(v10:Value).ownBlock) (.slice A3 l3.length c3) l3)/\Aside0 (Kd.N (Kd.slice 3 (Kd.int .i64)) 23 w' w.heap.size (λk_=>(P3_ k_\/w.heap.size<=k_)) v10 x10_2)/\Aside0 (Below w.heap.size w w'))
 case atStart=>exact ⟨(([]:List (List Int))),(0),z1_3,H',⟨Nat.le_refl _⟩,⟨(by(with_reducible repeat(first|apply Kd.V_alloc|apply Kd.V_drewN|apply Kd.V_drew));exact Kd.V_mono HO_3.out (λ_ hk=>⟨hk,(by simp [Value.ownBlock])⟩))⟩,⟨z1_5⟩,⟨z1_1⟩⟩
 case round =>
 clear H'
 try clear c1
 try clear p2
 try clear c3
 try clear c5
 try clear c7
 try clear c9
 try clear c9b0
 try clear c9b1
 try clear c10
 try clear c10b0
 try clear c11
 try clear p2
 obtain ⟨x10_2,x34_2,rfl,HA,HK2,HO_3,HO_10,HB⟩:=hrel
 cases gk with
 | zero=>exact absurd HA.out (by simp [stable_Learn.l0])
 | succ k2 =>
 have H:=HA.out
 clear HA
 simp only [stable_Learn.l0] at H
 by_cases c12:x34_2<(l0.length:Int)
 ·rw [if_pos c12] at H
  have c12b0:decide (x34_2<(l0.length:Int))=true:=dT_ c12
  clear c12
  by_cases c13:0<=x34_2
  rotate_left
  ·rw [if_neg c13] at H
   exact absurd H (by simp)
  rw [if_pos c13] at H
  have c13b0:decide (0<=x34_2)=true:=dT_ c13
  clear c13
  by_cases c14:x34_2<(l0.length:Int)
  rotate_left
  ·rw [if_neg c14] at H
   exact absurd H (by simp)
  rw [if_pos c14] at H
  have c14b0:decide (x34_2<(l0.length:Int))=true:=dT_ c14
  clear c14
  replace H:=oB_ H
  obtain ⟨t118,A150,H⟩:=H
  replace H:(if x10_2.length<5864062014805 then(stable_Learn.l0 k2 l1 a2 l3 (x10_2++[t118]) l0 (l0.length:Int) (wrap64 (x34_2+1))) else(none))=some (r1,r2):=H
  have A15:=Aside0.mk A150
  clear A150
  by_cases c16:x10_2.length<5864062014805
  rotate_left
  ·rw [if_neg c16] at H
   exact absurd H (by simp)
  rw [if_pos c16] at H
  have LMc16:=Aside0.mk c16
  clear c16
  obtain ⟨y121,hy121⟩:∃ y_:List (List Int),y_=(x10_2++[t118]):=⟨_,rfl⟩
  replace H:(stable_Learn.l0 k2 l1 a2 l3 y121 l0 (l0.length:Int) (wrap64 (x34_2+1)))=some (r1,r2):=by first|(rw [hy121];with_reducible exact H)|(have H2_:=(Option.bind_some _ _).symm.trans H;rw [hy121];with_reducible exact H2_)|(have H2_:=(Option.bind_some _ _).symm.trans H;with_reducible exact H2_)|with_reducible exact H|(rw [hy121];exact H)|exact H
  have Ny121:=Aside0.mk hy121
  clear hy121
  have H':=Aside0.mk H
  clear H
  have p117:0<=(x34_2:Int):=oD_ z1_0
  have q117:x34_2<(l0.length:Int):=oD_ z1_0
  obtain ⟨ad117,A117_0,c117_0,e117,hx117_0,hl117_0,hi117_0⟩:=at_L1 HR0.out x34_2 p117 q117
  cases e117
  replace hx117_0:=(HB.out.cell (World.block_lt_of_cell? w _ hx117_0)).trans hx117_0
  have HR117_0:=Aside0.mk hi117_0
  have HC117_0:=Aside0.mk hl117_0
  clear hi117_0 hl117_0
  replace p117:=eq_true p117
  replace q117:=eq_true q117
  go_wp2_with (first|((with_reducible refine gate_callee (f:=22) rfl ?_);refine goesL_ (some 40) rfl rfl Try.func22 z2_31 rfl #[.slice A117_0 (rd_L1 l0 x34_2).length c117_0] rfl z2_2 ?_;(with_reducible refine(clock_Plain.calls _ _ (rd_L1 l0 x34_2) t118 _ ?side1 ?side2 A15.out).mono ?_);(case side1=>repeat(first|exact(Kd.C_below HR117_0.out HB.out)|(with_reducible refine Kd.C_alloc ?_ _)|(with_reducible refine Kd.C_drewN ?_ _)|(with_reducible refine Kd.C_drew ?_)));(case side2=>exact HC117_0.out);rintro e w17 ⟨v119,rfl,ho0,hb⟩;refine ⟨_,rfl,?_⟩;replace HO_3:=U (Kd.V_elder' z2_15 (Kd.R_base ho0) hb);replace HO_10:=U (Kd.N_elder' z2_10 (Kd.R_base ho0) hb);have HO120:=U (Kd.R_lower (Kd.R_newM (M:=λk_=>(w.heap.size<=k_)) ho0 (below_size z1_1) (λk_ h_=>h_)) (below_size z1_1));replace HB:=U (below_step z1_1 hb);(try clear hb);(try clear hb2);(try clear hk);(try clear hi);(try clear ho0);obtain ⟨Ao19,co19,eo19⟩:=Kd.R_slice HO120.out;subst eo19)|((with_reducible refine gate_builtin (b:=.append) (xs:=#[.tmp 38,.tmp 41]) rfl ?_);(try(refine gate_guard (by rfl) ?_;dsimp only));at_builtin;refine Kd.N_append (Kd.slice 3 (Kd.int .i64)) (w0:=w) w.heap.size rfl (.tmp 38) (.tmp 41) 41 23 (.slice none 0 0) 24 rfl Try.underlying41 info23 rfl z2_36 (by omega) u10 x10_2 t118 [.slice Ao19 t118.length co19] (λk_=>(P3_ k_\/w.heap.size<=k_)) (λk_=>((λk_=>(P3_ k_\/w.heap.size<=k_))) k_/\some k_≠(u10:Value).ownBlock) rfl rfl ?aP (λ_ hk=>hk) ?aF ?aO ?aB ?aS ?aL ?_;(case aP=>exact(by first|(obtain ⟨A_,c_,e_⟩:=Kd.R_slice HO120.out;have hq_:=HO120.out;rw [e_] at hq_ ⊢;exact Kd.FK_slice_mk (Kd.R_reads' (Kd.R_mono (ok':=(λk_=>((λk_=>(P3_ k_\/w.heap.size<=k_))) k_/\some k_≠(u10:Value).ownBlock)) (Kd.R_apart' (hq_) (Kd.N_typed HO_10.out) z2_36) (λk_ hk=>⟨(.inr (hk.1.1)),hk.2⟩))).2.1 (Kd.R_F (Kd.R_mono (ok':=(λk_=>((λk_=>(P3_ k_\/w.heap.size<=k_))) k_/\some k_≠(u10:Value).ownBlock)) (Kd.R_apart' (hq_) (Kd.N_typed HO_10.out) z2_36) (λk_ hk=>⟨(.inr (hk.1.1)),hk.2⟩))))|exact Kd.FK_slice_mk (Kd.R_reads' (Kd.R_mono (ok':=(λk_=>((λk_=>(P3_ k_\/w.heap.size<=k_))) k_/\some k_≠(u10:Value).ownBlock)) (Kd.R_apart' (HO120.out) (Kd.N_typed HO_10.out) z2_36) (λk_ hk=>⟨(.inr (hk.1.1)),hk.2⟩))).2.1 (Kd.R_F (Kd.R_mono (ok':=(λk_=>((λk_=>(P3_ k_\/w.heap.size<=k_))) k_/\some k_≠(u10:Value).ownBlock)) (Kd.R_apart' (HO120.out) (Kd.N_typed HO_10.out) z2_36) (λk_ hk=>⟨(.inr (hk.1.1)),hk.2⟩)))));(case aB=>exact z1_1);(case aF=>exact(λk_ hk=>(.inr (Nat.le_trans (below_size z1_1) hk))));(case aO=>exact z2_35);(case aS=>exact(below_size z1_1));(case aL=>have:=LMc16.out;omega);intro v122 w18 ho hb hg hat;rw [<-Ny121.out] at ho;replace HO_3:=U (Kd.V_afterv (ok:=(λk_=>(P3_ k_\/w.heap.size<=k_)/\some k_≠(.slice Ao19 t118.length co19:Value).ownBlock)) (by(with_reducible repeat(first|apply Kd.V_alloc|apply Kd.V_drewN|apply Kd.V_drew));exact Kd.V_mono HO_3.out (λ_ hk=>⟨⟨hk.1.1,hk.2⟩,hk.1.2⟩)) hg hat);replace HB:=U (hb);have HO123:=U (ho);clear HO_10 HO120;clear ho hb hg hat))
  go_roundg k2
  case measure=>have:=HJ4.out;have:=HK2.out;omega
  case rel=>exact ⟨(y121),(wrap64 (x34_2+1)),z1_3,H',⟨(by have:=HJ4.out;have:=HK2.out;omega)⟩,⟨(by(with_reducible repeat(first|apply Kd.V_alloc|apply Kd.V_drewN|apply Kd.V_drew));exact Kd.V_mono HO_3.out (λ_ hk=>⟨hk.1.1,hk.2⟩))⟩,⟨(by(with_reducible repeat(first|apply Kd.N_alloc|apply Kd.N_drewN|apply Kd.N_drew));exact HO123.out)⟩,⟨z1_1⟩⟩
 rw [if_neg c12] at H
 have c12b0:decide (x34_2<(l0.length:Int))=false:=dF_ c12
 clear c12
 replace H:=oB_ H
 obtain ⟨t124,A200,H⟩:=H
 replace H:((clock_Get.f l3 a2).bind λt125=>(if t124>=t125 then(if 0<=(wrap64 (a2 - 1)) then(if (wrap64 (a2 - 1))<(x10_2.length:Int) then((clock_Join.f (([rd_L1 x10_2 (wrap64 (a2 - 1)),l3]:List (List Int)))).bind λt130=>(some ((x10_2.set ((wrap64 (a2 - 1)):Int).toNat t130),0))) else(none)) else(none)) else(some (x10_2,0))))=some (r1,r2):=H
 have A20:=Aside0.mk A200
 clear A200
 replace H:=oB_ H
 obtain ⟨t125,A210,H⟩:=H
 replace H:(if t124>=t125 then(if 0<=(wrap64 (a2 - 1)) then(if (wrap64 (a2 - 1))<(x10_2.length:Int) then((clock_Join.f (([rd_L1 x10_2 (wrap64 (a2 - 1)),l3]:List (List Int)))).bind λt130=>(some ((x10_2.set ((wrap64 (a2 - 1)):Int).toNat t130),0))) else(none)) else(none)) else(some (x10_2,0)))=some (r1,r2):=H
 have A21:=Aside0.mk A210
 clear A210
 by_cases c22:t124>=t125
 rotate_left
 ·rw [if_neg c22] at H
  have c22b0:decide (t125<=t124)=false:=dF_ c22
  clear c22
  simp only [Option.some.injEq,Prod.mk.injEq] at H
  obtain ⟨rfl,rfl⟩:=H
  go_wp2_with (first|((with_reducible refine gate_callee (f:=29) rfl ?_);refine goesL_ (some 46) rfl rfl Try.func29 z2_31 rfl #[.slice A1 l1.length c1,.int .i64 a2] rfl z2_2 ?_;(with_reducible refine(clock_Get.calls _ _ l1 a2 t124 _ ?side1 ?side2 A20.out).mono ?_);(case side1=>exact z2_9);(case side2=>exact HC1.out);rintro e w37 ⟨rfl,hb⟩;refine ⟨_,rfl,?_⟩;replace HO_3:=U (Kd.V_below z2_15 hb);replace HO_10:=U (Kd.N_below z2_10 hb);replace HB:=U (below_step z1_1 hb);(try clear hb);(try clear hb2);(try clear hk);(try clear hi))|((with_reducible refine gate_callee (f:=29) rfl ?_);refine goesL_ (some 49) rfl rfl Try.func29 z2_31 rfl #[.slice A3 l3.length c3,.int .i64 a2] rfl z2_2 ?_;(with_reducible refine(clock_Get.calls _ _ l3 a2 t125 _ ?side1 ?side2 A21.out).mono ?_);(case side1=>exact z2_32);(case side2=>exact(Kd.V_reads' HO_3.out).2.1);rintro e w38 ⟨rfl,hb⟩;refine ⟨_,rfl,?_⟩;replace HO_3:=U (Kd.V_below z2_15 hb);replace HO_10:=U (Kd.N_below z2_10 hb);replace HB:=U (below_step z1_1 hb);(try clear hb);(try clear hb2);(try clear hk);(try clear hi)))
  go_ret2
  exact ⟨_,z1_4,z2_10,z1_1⟩
 rw [if_pos c22] at H
 have c22b0:decide (t125<=t124)=true:=dT_ c22
 clear c22
 obtain ⟨ji23,hji23⟩:∃ j_:Int,(wrap64 (a2 - 1))=j_:=⟨_,rfl⟩
 replace H:(if 0<=(ji23) then(if (ji23)<(x10_2.length:Int) then((clock_Join.f (([rd_L1 x10_2 (ji23),l3]:List (List Int)))).bind λt130=>(some ((x10_2.set ((ji23):Int).toNat t130),0))) else(none)) else(none))=some (r1,r2):=by first|(rw [hji23] at H;exact H)|(simp only [hji23] at H ⊢;exact H)
 (try rw [hji23] at A20)
 (try rw [hji23] at A21)
 have hji23w:(IntKind.i64.wrap (a2 - 1))=ji23:=(i64_w _).trans hji23
 (try rw [hji23] at c9b0)
 (try rw [hji23] at c9b0)
 (try rw [hji23] at c12b0)
 (try rw [hji23] at c12b0)
 (try rw [hji23] at c22b0)
 by_cases c24:0<=(ji23)
 rotate_left
 ·rw [if_neg c24] at H
  exact absurd H (by simp)
 rw [if_pos c24] at H
 have c24b0:decide (0<=(ji23))=true:=dT_ c24
 clear c24
 by_cases c25:(ji23)<(x10_2.length:Int)
 rotate_left
 ·rw [if_neg c25] at H
  exact absurd H (by simp)
 rw [if_pos c25] at H
 have c25b0:decide ((ji23)<(x10_2.length:Int))=true:=dT_ c25
 clear c25
 obtain ⟨y127,hy127⟩:∃ y_:List (List Int),y_=(([rd_L1 x10_2 (ji23),l3]:List (List Int))):=⟨_,rfl⟩
 replace H:((clock_Join.f y127).bind λt130=>(some ((x10_2.set ((ji23):Int).toNat t130),0)))=some (r1,r2):=by first|(rw [hy127];with_reducible exact H)|(have H2_:=(Option.bind_some _ _).symm.trans H;rw [hy127];with_reducible exact H2_)|(have H2_:=(Option.bind_some _ _).symm.trans H;with_reducible exact H2_)|with_reducible exact H|(rw [hy127];exact H)|exact H
 have Ny127:=Aside0.mk hy127
 clear hy127
 replace H:=oB_ H
 obtain ⟨t130,A260,H⟩:=H
 replace H:(some ((x10_2.set ((ji23):Int).toNat t130),0))=some (r1,r2):=H
 have A26:=Aside0.mk A260
 clear A260
 obtain ⟨y133,hy133⟩:∃ y_:List (List Int),y_=(x10_2.set ((ji23):Int).toNat t130):=⟨_,rfl⟩
 replace H:(some (y133,0))=some (r1,r2):=by first|(rw [hy133];with_reducible exact H)|(have H2_:=(Option.bind_some _ _).symm.trans H;rw [hy133];with_reducible exact H2_)|(have H2_:=(Option.bind_some _ _).symm.trans H;with_reducible exact H2_)|with_reducible exact H|(rw [hy133];exact H)|exact H
 have Ny133:=Aside0.mk hy133
 clear hy133
 simp only [Option.some.injEq,Prod.mk.injEq] at H
 obtain ⟨rfl,rfl⟩:=H
 go_wp2_with (first|((with_reducible refine gate_callee (f:=29) rfl ?_);refine goesL_ (some 46) rfl rfl Try.func29 z2_31 rfl #[.slice A1 l1.length c1,.int .i64 a2] rfl z2_2 ?_;(with_reducible refine(clock_Get.calls _ _ l1 a2 t124 _ ?side1 ?side2 A20.out).mono ?_);(case side1=>exact z2_9);(case side2=>exact HC1.out);rintro e w28 ⟨rfl,hb⟩;refine ⟨_,rfl,?_⟩;replace HO_3:=U (Kd.V_below z2_15 hb);replace HO_10:=U (Kd.N_below z2_10 hb);replace HB:=U (below_step z1_1 hb);(try clear hb);(try clear hb2);(try clear hk);(try clear hi))|((with_reducible refine gate_callee (f:=29) rfl ?_);refine goesL_ (some 49) rfl rfl Try.func29 z2_31 rfl #[.slice A3 l3.length c3,.int .i64 a2] rfl z2_2 ?_;(with_reducible refine(clock_Get.calls _ _ l3 a2 t125 _ ?side1 ?side2 A21.out).mono ?_);(case side1=>exact z2_32);(case side2=>exact(Kd.V_reads' HO_3.out).2.1);rintro e w29 ⟨rfl,hb⟩;refine ⟨_,rfl,?_⟩;replace HO_3:=U (Kd.V_below z2_15 hb);replace HO_10:=U (Kd.N_below z2_10 hb);replace HB:=U (below_step z1_1 hb);(try clear hb);(try clear hb2);(try clear hk);(try clear hi);obtain ⟨Ao30,co30,eo30⟩:=Kd.N_slice HO_10.out;subst eo30;have p126:0<=((ji23):Int):=oD_ z1_0;have q126:(ji23)<(x10_2.length:Int):=oD_ z1_0;obtain ⟨ad126,A126_0,c126_0,e126,hx126_0,hl126_0,hi126_0⟩:=at_L1 (Kd.N_reads' HO_10.out).2.2 (ji23) p126 q126;cases e126;obtain ⟨ce126,hce126,hMe126,hcc126⟩:=Kd.N_get HO_10.out [] (ji23) p126 (by first|exact q126|exact oD_ z1_0|(have e_:=(Kd.N_reads' HO_10.out).1;omega));obtain ⟨ua126_0,uc126_0,rfl,ul126_0,ge126_0⟩:=Kd.FK_slice_open hMe126;have hv126_0:=hcc126 0 _ rfl;rw [Nat.add_zero,show((Kd.slice 3 (Kd.int .i64))).sz=1 from rfl,Nat.mul_one] at hv126_0;replace hv126_0:=sI_ (hv126_0.symm.trans hx126_0);injection hv126_0 with hva_ hvn_ hvc_;rw [hva_] at ge126_0;rw [hvc_] at ul126_0;have HL126_0:=U (show Kd.V (Kd.int .i64) 3 _ w.heap.size _ _ (rd_L1 x10_2 (ji23)) from Kd.V_mk ul126_0 ge126_0);clear hva_ hvn_ hvc_ ge126_0 ul126_0;clear hcc126 hce126;have HR126_0:=Aside0.mk hi126_0;have HC126_0:=Aside0.mk hl126_0;clear hi126_0 hl126_0;replace p126:=eq_true p126;replace q126:=eq_true q126)|((with_reducible refine gate_dst (N:=60) rfl ?_);(try(refine gate_guard (by rfl) ?_;dsimp only));refine Kd.N_lit (Kd.slice 3 (Kd.int .i64)) _ 23 ?hg (N':=60) ?hd (xs:=([rd_L1 x10_2 (ji23),l3]:List (List Int))) (inner:=[.slice A126_0 (rd_L1 x10_2 (ji23)).length c126_0,.slice A3 l3.length c3]) (ok:=(λk_=>(P3_ k_\/w.heap.size<=k_)/\some k_≠(.slice (some ad126) x10_2.length co30:Value).ownBlock)) (okp:=(λk_=>(P3_ k_\/w.heap.size<=k_)/\some k_≠(.slice (some ad126) x10_2.length co30:Value).ownBlock)) ?hr ?hp (λ_ hk=>hk) ((show ∀ k_,w29.heap.size<=k_->(λk_=>(P3_ k_\/w.heap.size<=k_)/\some k_≠(.slice (some ad126) x10_2.length co30:Value).ownBlock) k_ from λk_ hk=>⟨(.inr (Nat.le_trans (below_size z1_1) hk)),Kd.fresh' (Kd.N_lt z2_10) k_ hk⟩) _ (Nat.le_refl _)) (Below.refl _ _) (Nat.le_refl _) (by simp) ?_;(case hd=>rfl);(case hg=>rfl);(case hr=>exact z2_12);(case hp=>exact(Reps.one (show Kd.FK (Kd.slice 3 (Kd.int .i64)) _ _ (rd_L1 x10_2 (ji23)) [.slice A126_0 (rd_L1 x10_2 (ji23)).length c126_0] from(Kd.FK_slice_mk (Kd.V_reads' (e:=0) (base:=0) (Kd.V_mono (e:=0) (base:=0) (ok':=(λk_=>(P3_ k_\/w.heap.size<=k_)/\some k_≠(.slice (some ad126) x10_2.length co30:Value).ownBlock)) (HL126_0.out) (λk_ hk=>⟨hk.1,hk.2⟩))).2.1 (Kd.V_F (e:=0) (base:=0) (Kd.V_mono (e:=0) (base:=0) (ok':=(λk_=>(P3_ k_\/w.heap.size<=k_)/\some k_≠(.slice (some ad126) x10_2.length co30:Value).ownBlock)) (HL126_0.out) (λk_ hk=>⟨hk.1,hk.2⟩))))) (Reps.one (show Kd.FK (Kd.slice 3 (Kd.int .i64)) _ _ l3 [.slice A3 l3.length c3] from(Kd.FK_slice_mk (Kd.V_reads' (e:=0) (base:=0) (Kd.V_mono (e:=0) (base:=0) (ok':=(λk_=>(P3_ k_\/w.heap.size<=k_)/\some k_≠(.slice (some ad126) x10_2.length co30:Value).ownBlock)) (HO_3.out) (λk_ hk=>⟨hk.1,hk.2⟩))).2.1 (Kd.V_F (e:=0) (base:=0) (Kd.V_mono (e:=0) (base:=0) (ok':=(λk_=>(P3_ k_\/w.heap.size<=k_)/\some k_≠(.slice (some ad126) x10_2.length co30:Value).ownBlock)) (HO_3.out) (λk_ hk=>⟨hk.1,hk.2⟩))))) (Reps.none _ _))));intro v128 w31 ho32 hb hg_ hnew_;clear hg_ hnew_;(first|rw [<-Ny127.out] at ho32|(simp only [Int.reduceToNat] at ho32;rw [<-Ny127.out] at ho32));replace HO_3:=U (Kd.V_elder' z2_15 (Kd.N_base ho32) hb);replace HO_10:=U (Kd.N_elder' z2_10 (Kd.N_base ho32) hb);replace HL126_0:=U (Kd.V_elder' (by(with_reducible repeat(first|apply Kd.V_alloc|apply Kd.V_drewN|apply Kd.V_drew));exact HL126_0.out) (Kd.N_base ho32) hb);have HO129:=U (Kd.N_lower ho32 (below_size z1_1));replace HR126_0:=U (Kd.C_below z2_30 hb);replace HB:=U (below_step z1_1 hb);clear hb ho32;obtain ⟨Ao33,co33,eo33⟩:=Kd.N_slice HO129.out;subst eo33)|((with_reducible refine gate_callee (f:=13) rfl ?_);refine goesL_ (some 61) rfl rfl Try.func13 z2_31 rfl #[.slice Ao33 y127.length co33] rfl z2_2 ?_;(with_reducible refine(clock_Join.calls _ _ y127 t130 _ ?side1 ?side2 A26.out).mono ?_);(case side1=>repeat(first|exact(Kd.N_reads' HO129.out).2.2|(with_reducible refine Kd.C_alloc ?_ _)|(with_reducible refine Kd.C_drewN ?_ _)|(with_reducible refine Kd.C_drew ?_)));(case side2=>exact(Kd.N_reads' HO129.out).2.1);rintro e w34 ⟨v131,rfl,ho0,hb⟩;refine ⟨_,rfl,?_⟩;obtain ⟨Av131,cv131,ev131⟩:=Kd.R_slice ho0;subst ev131;replace HO_3:=U (Kd.V_elder' z2_15 (Kd.R_base ho0) hb);replace HO_10:=U (Kd.N_elder' z2_10 (Kd.R_base ho0) hb);replace HL126_0:=U (Kd.V_elder' (by(with_reducible repeat(first|apply Kd.V_alloc|apply Kd.V_drewN|apply Kd.V_drew));exact HL126_0.out) (Kd.R_base ho0) hb);replace HO129:=U (Kd.N_elder' (by(with_reducible repeat(first|apply Kd.N_alloc|apply Kd.N_drewN|apply Kd.N_drew));exact HO129.out) (Kd.R_base ho0) hb);have HO132:=U (Kd.R_lower (Kd.R_newM (M:=λk_=>(w.heap.size<=k_)) ho0 (below_size z1_1) (λk_ h_=>h_)) (below_size z1_1));replace HR126_0:=U (Kd.C_below z2_30 hb);replace HB:=U (below_step z1_1 hb);(try clear hb);(try clear hb2);(try clear hk);(try clear hi);(try clear ho0);have p27:0<=((ji23):Int):=oD_ z1_0;have q27:((ji23):Int)<((x10_2.length:Int):Int):=oD_ z1_0;obtain ⟨go27,co27,eo27,gb27,gl27,cl27,HG27⟩:=Kd.N_form HO_10.out (by omega);(first|cases eo27|(injection eo27 with ea_ en_ ec_;(first|subst ea_|(injection ea_ with ea_;subst ea_));subst ec_;clear en_));have GB27:=Aside0.mk gb27;have GG27:=Aside0.mk HG27;clear gb27 gl27 HG27;(first|simp only [add_plain] at hx126_0|skip);obtain ⟨ce27,hcl27,hM27,hcc27,hfr27⟩:=Kd.N_elem HO_10.out [] ((ji23):Int) p27 q27;obtain ⟨ua27_0,uc27_0,rfl,ul27_0,ge27_0⟩:=Kd.FK_slice_open hM27;have hx27_0:=hcc27 0 _ rfl;have hf27_0:=hfr27 0;(try simp only [show((Kd.slice 3 (Kd.int .i64))).sz=1 from rfl,Nat.mul_one,Nat.add_zero] at hx27_0);(try simp only [show((Kd.slice 3 (Kd.int .i64))).sz=1 from rfl,Nat.mul_one,Nat.add_zero] at hf27_0);clear hcl27 hcc27 hfr27 hM27;replace p27:=eq_true p27;replace q27:=eq_true q27;have n_:=U (Kd.N_mono (ok':=(λk_=>(P3_ k_\/w.heap.size<=k_)/\some k_≠(.slice Ao33 y127.length co33:Value).ownBlock/\some k_≠(.slice Av131 t130.length cv131:Value).ownBlock)) HO_10.out (λk_ hk=>⟨hk.1.1,⟨hk.1.2,hk.2⟩⟩));clear HO_10;have HO_10:=n_;clear n_;have HX35:=U (show Kd.N (Kd.slice 3 (Kd.int .i64)) 23 w34 w.heap.size (λk_=>(P3_ k_\/w.heap.size<=k_)/\some k_≠(.slice Ao33 y127.length co33:Value).ownBlock) (.slice (some ⟨go27,0,none⟩) x10_2.length co30) x10_2 from(by(with_reducible repeat(first|apply Kd.N_alloc|apply Kd.N_drewN|apply Kd.N_drew));exact Kd.N_mono HO_10.out (λ_ hk=>⟨hk.1,hk.2.1⟩)));obtain ⟨ce35,hcl35,hM35,hcc35,hfr35⟩:=Kd.N_elem HX35.out [] ((ji23):Int) (oD_ z1_0) (by have h_:((ji23):Int)<((x10_2.length:Int):Int):=oD_ z1_0;first|exact h_|(have e_:=(Kd.N_reads' HO_10.out).1;omega)|simpa using h_);obtain ⟨ua35_0,uc35_0,rfl,ul35_0,ge35_0⟩:=Kd.FK_slice_open hM35;have HP35:=Kd.N_seg HX35.out ((ji23):Int) (oD_ z1_0) (by have h_:((ji23):Int)<((x10_2.length:Int):Int):=oD_ z1_0;first|exact h_|(have e_:=(Kd.N_reads' HO_10.out).1;omega)|simpa using h_) (seg:=[(.slice Av131 t130.length cv131)]) (j:=0) hcl35 hcc35 (show 1<=1 from by decide) (x':=t130) (by first|(obtain ⟨A_,c_,e_⟩:=Kd.R_slice HO132.out;have hq_:=HO132.out;rw [e_] at hq_ ⊢;exact Kd.FK_slice_mk (Kd.R_reads' (Kd.R_mono (ok':=(λk_=>((λk_=>(P3_ k_\/w.heap.size<=k_)/\some k_≠(.slice Ao33 y127.length co33:Value).ownBlock)) k_/\k_≠go27)) (Kd.R_apart' (Kd.R_apart' (hq_) (Kd.N_typed HO129.out) z2_36) (Kd.N_typed HO_10.out) z2_36) (λk_ hk=>⟨⟨(.inr (hk.1.1.1)),hk.1.2⟩,λe_=>(hk.2) (by rw [e_];rfl)⟩))).2.1 (Kd.R_F (Kd.R_mono (ok':=(λk_=>((λk_=>(P3_ k_\/w.heap.size<=k_)/\some k_≠(.slice Ao33 y127.length co33:Value).ownBlock)) k_/\k_≠go27)) (Kd.R_apart' (Kd.R_apart' (hq_) (Kd.N_typed HO129.out) z2_36) (Kd.N_typed HO_10.out) z2_36) (λk_ hk=>⟨⟨(.inr (hk.1.1.1)),hk.1.2⟩,λe_=>(hk.2) (by rw [e_];rfl)⟩))))|exact Kd.FK_slice_mk (Kd.R_reads' (Kd.R_mono (ok':=(λk_=>((λk_=>(P3_ k_\/w.heap.size<=k_)/\some k_≠(.slice Ao33 y127.length co33:Value).ownBlock)) k_/\k_≠go27)) (Kd.R_apart' (Kd.R_apart' (HO132.out) (Kd.N_typed HO129.out) z2_36) (Kd.N_typed HO_10.out) z2_36) (λk_ hk=>⟨⟨(.inr (hk.1.1.1)),hk.1.2⟩,λe_=>(hk.2) (by rw [e_];rfl)⟩))).2.1 (Kd.R_F (Kd.R_mono (ok':=(λk_=>((λk_=>(P3_ k_\/w.heap.size<=k_)/\some k_≠(.slice Ao33 y127.length co33:Value).ownBlock)) k_/\k_≠go27)) (Kd.R_apart' (Kd.R_apart' (HO132.out) (Kd.N_typed HO129.out) z2_36) (Kd.N_typed HO_10.out) z2_36) (λk_ hk=>⟨⟨(.inr (hk.1.1.1)),hk.1.2⟩,λe_=>(hk.2) (by rw [e_];rfl)⟩)))) (λ_ hk=>hk);have hx35_0:=hcc35 0 _ rfl;(try simp only [show((Kd.slice 3 (Kd.int .i64))).sz=1 from rfl,Nat.mul_one,Nat.add_zero] at hx35_0);have hf35_0:=hfr35 0;(try simp only [show((Kd.slice 3 (Kd.int .i64))).sz=1 from rfl,Nat.mul_one,Nat.add_zero] at hf35_0);clear hcl35 hcc35 hfr35 hM35;(try simp only [show((Kd.slice 3 (Kd.int .i64))).sz=1 from rfl,Nat.mul_one,Nat.add_zero] at HP35);(try simp only [show((Kd.slice 3 (Kd.int .i64))).sz=1 from rfl,Nat.mul_one,Nat.add_zero] at HP35))|((with_reducible refine gate_store (t:=23) (p:=62) rfl ?_);refine store_event (t:=23) (p:=62) (v:=?vo_w36) (w1:=(w34.setCell ⟨go27,((ji23):Int).toNat,none⟩ ((.slice Av131 t130.length cv131)))) ?hg ?ho ?hn ?hr ?_;(case ho=>rfl);(case hg=>rfl);(case hn=>rfl);(case hr=>exact z2_12);intro w36 hw;have hg:w34.grownBy w36 (some go27):=(by rw [hw];exact HP35.2);have hp_:Kd.N (Kd.slice 3 (Kd.int .i64)) 23 w36 w.heap.size (λk_=>(P3_ k_\/w.heap.size<=k_)/\some k_≠(.slice Ao33 y127.length co33:Value).ownBlock) (.slice (some ⟨go27,0,none⟩) x10_2.length co30) y133:=(by rw [hw,Ny133.out];exact HP35.1);clear HP35;replace HO_3:=U (Kd.V_afterv (v:=(.slice (some ⟨go27,0,none⟩) x10_2.length co30)) (v1:=(.slice (some ⟨go27,0,none⟩) x10_2.length co30)) (ok:=(λk_=>(P3_ k_\/w.heap.size<=k_)/\some k_≠(.slice Ao33 y127.length co33:Value).ownBlock/\some k_≠(.slice Av131 t130.length cv131:Value).ownBlock)) (by(with_reducible repeat(first|apply Kd.V_alloc|apply Kd.V_drewN|apply Kd.V_drew));exact Kd.V_mono HO_3.out (λ_ hk=>⟨⟨hk.1.1.1,⟨hk.1.2,hk.2⟩⟩,hk.1.1.2⟩)) hg (.inl rfl));replace HO_10:=U (hp_);replace HL126_0:=U (Kd.V_afterv (v:=(.slice (some ⟨go27,0,none⟩) x10_2.length co30)) (v1:=(.slice (some ⟨go27,0,none⟩) x10_2.length co30)) (ok:=(λk_=>(P3_ k_\/w.heap.size<=k_)/\some k_≠(.slice Ao33 y127.length co33:Value).ownBlock/\some k_≠(.slice Av131 t130.length cv131:Value).ownBlock)) (by(with_reducible repeat(first|apply Kd.V_alloc|apply Kd.V_drewN|apply Kd.V_drew));exact Kd.V_mono HL126_0.out (λ_ hk=>⟨⟨hk.1.1.1,⟨hk.1.2,hk.2⟩⟩,hk.1.1.2⟩)) hg (.inl rfl));replace HO129:=U (Kd.N_afterv (v:=(.slice (some ⟨go27,0,none⟩) x10_2.length co30)) (v1:=(.slice (some ⟨go27,0,none⟩) x10_2.length co30)) (ok:=(λk_=>(P3_ k_\/w.heap.size<=k_)/\some k_≠(.slice Av131 t130.length cv131:Value).ownBlock)) (by(with_reducible repeat(first|apply Kd.N_alloc|apply Kd.N_drewN|apply Kd.N_drew));exact Kd.N_mono HO129.out (λ_ hk=>⟨⟨hk.1.1,hk.2⟩,hk.1.2⟩)) hg (.inl rfl));replace HB:=U ((by rw [hw];exact below_set (HB.out) GB27.out:Below w.heap.size w w36));clear HO132;clear hg hw hp_))
 go_ret2
 exact ⟨_,(by first|rfl|(simp [errW_none,errW_some]<;>rfl)|(simp only [<-hji23];first|rfl|(simp [errW_none,errW_some]<;>rfl))|(simp [*,errW_none,errW_some]<;>rfl)),z2_35,z1_1⟩
def clock_Meet.f (l0:List Int) (l1:List Int):Option (List Int):=some (ClockBase.trim (ClockBase.meetS l0 l1))
theorem clock_Meet.calls (A0:Option Addr) (c0:Nat) (l0:List Int) (A1:Option Addr) (c1:Nat) (l1:List Int) (r:List Int) (w:World) (hr0:Kd.C (Kd.int .i64) w A0 l0.length l0) (hc0:l0.length<=c0) (hr1:Kd.C (Kd.int .i64) w A1 l1.length l1) (hc1:l1.length<=c1) (h:clock_Meet.f l0 l1=some r) :
  Calls Try.prog 14 #[.slice A0 l0.length c0,.slice A1 l1.length c1] w λe w'=>∃ v0_:Value,e = .returned (v0_)/\Kd.R (Kd.int .i64) 3 w' w.heap.size (λ_=>True) v0_ r/\Below w.heap.size w w':=by
 obtain rfl:=sI_ h
 exact ClockBase.Meet_calls A0 A1 c0 c1 l0 l1 w hr0 hr1
def stable_Stable.l0:Nat->List Int->List (List Int)->Int->Int->Option (List Int)
 | 0,_,_,_,_=>none
 | k+1,x5,x14,x15,x16=>if x16<x15 then(if 0<=x16 then(if x16<(x14.length:Int) then((clock_Meet.f x5 (rd_L1 x14 x16)).bind λt139=>(stable_Stable.l0 k t139 x14 x15 (wrap64 (x16+1)))) else(none)) else(none)) else(some x5)
def stable_Stable.f (k:Nat) (l0:List (List Int)) (l1:List Int):Option (List Int):=(stable_may.f l0 l1).bind λt134=>(if t134=true then((clock_Plain.f l1).bind λt135=>(stable_Stable.l0 k t135 l0 (l0.length:Int) 0)) else(some ([]:List Int)))
theorem stable_Stable.calls (k:Nat) (A0:Option Addr) (c0:Nat) (l0:List (List Int)) (A1:Option Addr) (c1:Nat) (l1:List Int) (r:List Int) (w:World) (hr0:Kd.C (Kd.slice 3 (Kd.int .i64)) w A0 l0.length l0) (hc0:l0.length<=c0) (hr1:Kd.C (Kd.int .i64) w A1 l1.length l1) (hc1:l1.length<=c1) (h:stable_Stable.f k l0 l1=some r) :
  Calls Try.prog 37 #[.slice A0 l0.length c0,.slice A1 l1.length c1] w λe w'=>∃ v0_:Value,e = .returned (v0_)/\Kd.R (Kd.int .i64) 3 w' w.heap.size (λ_=>True) v0_ r/\Below w.heap.size w w':=by
 have HR0:=Aside0.mk hr0
 have HC0:=Aside0.mk hc0
 clear hr0 hc0
 have HR1:=Aside0.mk hr1
 have HC1:=Aside0.mk hc1
 clear hr1 hc1
 have HB:=U (Below.refl w.heap.size w)
 have H:((stable_may.f l0 l1).bind λt134=>(if t134=true then((clock_Plain.f l1).bind λt135=>(stable_Stable.l0 k t135 l0 (l0.length:Int) 0)) else(some ([]:List Int))))=some r:=h
 clear h
 replace H:=oB_ H
 obtain ⟨t134,A30,H⟩:=H
 replace H:(if t134=true then((clock_Plain.f l1).bind λt135=>(stable_Stable.l0 k t135 l0 (l0.length:Int) 0)) else(some ([]:List Int)))=some r:=H
 have A3:=Aside0.mk A30
 clear A30
 by_cases c4:t134=true
 rotate_left
 ·replace c4:=Bool.eq_false_iff.mpr c4
  subst c4
  have H1:(some ([]:List Int))=some r:=by rw [if_neg (show ¬ (false=true) by decide)] at H;exact H
  clear H
  have H:=H1
  clear H1
  obtain rfl:=sI_ H
  go_enter Try.func37,Try.ntmps37
  go_wp2_with (first|((with_reducible refine gate_callee (f:=52) rfl ?_);refine goesL_ (some 10) rfl rfl Try.func52 z2_31 rfl #[.slice A0 l0.length c0,.slice A1 l1.length c1] rfl z2_2 ?_;(with_reducible refine(stable_may.calls _ _ l0 _ _ l1 false _ ?side1 ?side2 ?side3 ?side4 A3.out).mono ?_);(case side1=>exact z2_11);(case side2=>exact HC0.out);(case side3=>exact z2_25);(case side4=>exact HC1.out);rintro e w' ⟨rfl,⟨nd,rfl⟩⟩;refine ⟨_,rfl,?_⟩))
  go_ret
  exact ⟨_,z1_4,(by first|exact Kd.R_nil _ _ _ _ _|exact Kd.N_nil _ _ _ _ _|exact Kd.V_nil _ _ _ _ _|exact Kd.Q_nil _ _ _ _ _|exact Kd.S_nil _ _ _ _ _),z1_1⟩
 subst c4
 have H1:((clock_Plain.f l1).bind λt135=>(stable_Stable.l0 k t135 l0 (l0.length:Int) 0))=some r:=by rw [if_pos rfl] at H;exact H
 clear H
 have H:=H1
 clear H1
 replace H:=oB_ H
 obtain ⟨t135,A50,H⟩:=H
 replace H:(stable_Stable.l0 k t135 l0 (l0.length:Int) 0)=some r:=H
 have A5:=Aside0.mk A50
 clear A50
 have H':=Aside0.mk H
 clear H
 go_enter Try.func37,Try.ntmps37
 go_wp2_with (first|((with_reducible refine gate_callee (f:=52) rfl ?_);refine goesL_ (some 10) rfl rfl Try.func52 z2_31 rfl #[.slice A0 l0.length c0,.slice A1 l1.length c1] rfl z2_2 ?_;(with_reducible refine(stable_may.calls _ _ l0 _ _ l1 true _ ?side1 ?side2 ?side3 ?side4 A3.out).mono ?_);(case side1=>exact z2_11);(case side2=>exact HC0.out);(case side3=>exact z2_25);(case side4=>exact HC1.out);rintro e w' ⟨rfl,⟨nd,rfl⟩⟩;refine ⟨_,rfl,?_⟩)|((with_reducible refine gate_callee (f:=22) rfl ?_);refine goesL_ (some 13) rfl rfl Try.func22 z2_31 rfl #[.slice A1 l1.length c1] rfl z2_2 ?_;(with_reducible refine(clock_Plain.calls _ _ l1 t135 _ ?side1 ?side2 A5.out).mono ?_);(case side1=>exact z2_25);(case side2=>exact HC1.out);rintro e w6 ⟨v136,rfl,ho0,hb⟩;refine ⟨_,rfl,?_⟩;have HO137:=U (Kd.R_lower ho0 (below_size z1_1));replace HB:=U (below_step z1_1 hb);(try clear hb);(try clear hb2);(try clear hk);(try clear hi);(try clear ho0)))
 go_loopg [5,16] k (λkq v5 v16 w'=>∃ (x5_1:List Int) (x16_1:Int),v16 = .int .i64 x16_1/\Aside0 (stable_Stable.l0 kq x5_1 l0 (l0.length:Int) x16_1=some r)/\Aside0 (kq<=k)/\Aside0 (Kd.R (Kd.int .i64) 3 w' w.heap.size (λ_=>True) v5 x5_1)/\Aside0 (Below w.heap.size w w'))
 case atStart=>exact ⟨(t135),(0),z1_3,H',⟨Nat.le_refl _⟩,⟨(by(with_reducible repeat(first|apply Kd.R_alloc|apply Kd.R_drewN|apply Kd.R_drew));exact HO137.out)⟩,⟨z1_1⟩⟩
 case round =>
 clear H'
 try clear c1
 try clear c2
 try clear p2
 try clear c3
 try clear c4
 try clear c5
 obtain ⟨x5_1,x16_1,rfl,HA,HK1,HO_5,HB⟩:=hrel
 cases gk with
 | zero=>exact absurd HA.out (by simp [stable_Stable.l0])
 | succ k1 =>
 have H:=HA.out
 clear HA
 simp only [stable_Stable.l0] at H
 by_cases c7:x16_1<(l0.length:Int)
 rotate_left
 ·rw [if_neg c7] at H
  have c7b0:decide (x16_1<(l0.length:Int))=false:=dF_ c7
  clear c7
  obtain rfl:=sI_ H
  go_wp2
  go_ret
  exact ⟨_,z1_4,z2_29,z1_1⟩
 rw [if_pos c7] at H
 have c7b0:decide (x16_1<(l0.length:Int))=true:=dT_ c7
 clear c7
 by_cases c8:0<=x16_1
 rotate_left
 ·rw [if_neg c8] at H
  exact absurd H (by simp)
 rw [if_pos c8] at H
 have c8b0:decide (0<=x16_1)=true:=dT_ c8
 clear c8
 by_cases c9:x16_1<(l0.length:Int)
 rotate_left
 ·rw [if_neg c9] at H
  exact absurd H (by simp)
 rw [if_pos c9] at H
 have c9b0:decide (x16_1<(l0.length:Int))=true:=dT_ c9
 clear c9
 replace H:=oB_ H
 obtain ⟨t139,A100,H⟩:=H
 replace H:(stable_Stable.l0 k1 t139 l0 (l0.length:Int) (wrap64 (x16_1+1)))=some r:=H
 have A10:=Aside0.mk A100
 clear A100
 have H':=Aside0.mk H
 clear H
 have p138:0<=(x16_1:Int):=oD_ z1_0
 have q138:x16_1<(l0.length:Int):=oD_ z1_0
 obtain ⟨ad138,A138_0,c138_0,e138,hx138_0,hl138_0,hi138_0⟩:=at_L1 HR0.out x16_1 p138 q138
 cases e138
 replace hx138_0:=(HB.out.cell (World.block_lt_of_cell? w _ hx138_0)).trans hx138_0
 have HR138_0:=Aside0.mk hi138_0
 have HC138_0:=Aside0.mk hl138_0
 clear hi138_0 hl138_0
 replace p138:=eq_true p138
 replace q138:=eq_true q138
 obtain ⟨Ao11,co11,eo11⟩:=Kd.R_slice HO_5.out
 subst eo11
 go_wp2_with (first|((with_reducible refine gate_callee (f:=14) rfl ?_);refine goesL_ (some 22) rfl rfl Try.func14 z2_31 rfl #[.slice Ao11 x5_1.length co11,.slice A138_0 (rd_L1 l0 x16_1).length c138_0] rfl z2_2 ?_;(with_reducible refine(clock_Meet.calls _ _ x5_1 _ _ (rd_L1 l0 x16_1) t139 _ ?side1 ?side2 ?side3 ?side4 A10.out).mono ?_);(case side1=>repeat(first|exact(Kd.R_reads' HO_5.out).2.2|(with_reducible refine Kd.C_alloc ?_ _)|(with_reducible refine Kd.C_drewN ?_ _)|(with_reducible refine Kd.C_drew ?_)));(case side2=>exact(Kd.R_reads' HO_5.out).2.1);(case side3=>repeat(first|exact(Kd.C_below HR138_0.out HB.out)|(with_reducible refine Kd.C_alloc ?_ _)|(with_reducible refine Kd.C_drewN ?_ _)|(with_reducible refine Kd.C_drew ?_)));(case side4=>exact HC138_0.out);rintro e w12 ⟨v140,rfl,ho0,hb⟩;refine ⟨_,rfl,?_⟩;have HO141:=U (Kd.R_lower (Kd.R_new' ho0 (Kd.R_lt z2_29)) (below_size z1_1));replace HO_5:=U (Kd.R_elder' z2_29 (Kd.R_base ho0) hb);replace HB:=U (below_step z1_1 hb);(try clear hb);(try clear hb2);(try clear hk);(try clear hi);(try clear ho0)))
 go_roundg k1
 case measure=>have:=HK1.out;omega
 case rel=>exact ⟨(t139),(wrap64 (x16_1+1)),z1_3,H',⟨(by have:=HK1.out;omega)⟩,⟨(by(with_reducible repeat(first|apply Kd.R_alloc|apply Kd.R_drewN|apply Kd.R_drew));exact Kd.R_mono HO141.out (λ_ hk=>trivial))⟩,⟨z1_1⟩⟩
def w29_awake.f (k:Nat) :Option (Bool):=(stable_New.f 2).bind λbt142=>((stable_Learn.f k bt142.1 (([1,1]:List Int)) 1 (([1,1]:List Int))).bind λbt152=>((stable_Learn.f k bt152.1 (([1,1]:List Int)) 2 (([1,1]:List Int))).bind λbt162=>(if bt142.2=0 then(if bt152.2=0 then(if bt162.2=0 then((stable_Stable.f k bt162.1 (([1,1]:List Int))).bind λt169=>((r03_Same.f k t169 (([1,1]:List Int))).bind λt175=>(some t175))) else(some false)) else(some false)) else(some false))))
theorem w29_awake.calls (k:Nat)  (r:Bool) (w:World) (h:w29_awake.f k =some r) :
  Calls Try.prog 34 #[] w λe w'=>e = .returned (.bool r)/\Below w.heap.size w w':=by
 have HB:=U (Below.refl w.heap.size w)
 have H:((stable_New.f 2).bind λbt142=>((stable_Learn.f k bt142.1 (([1,1]:List Int)) 1 (([1,1]:List Int))).bind λbt152=>((stable_Learn.f k bt152.1 (([1,1]:List Int)) 2 (([1,1]:List Int))).bind λbt162=>(if bt142.2=0 then(if bt152.2=0 then(if bt162.2=0 then((stable_Stable.f k bt162.1 (([1,1]:List Int))).bind λt169=>((r03_Same.f k t169 (([1,1]:List Int))).bind λt175=>(some t175))) else(some false)) else(some false)) else(some false)))))=some r:=h
 clear h
 replace H:=oB_ H
 obtain ⟨⟨t142,t143⟩,A10,H⟩:=H
 replace H:((stable_Learn.f k t142 (([1,1]:List Int)) 1 (([1,1]:List Int))).bind λbt152=>((stable_Learn.f k bt152.1 (([1,1]:List Int)) 2 (([1,1]:List Int))).bind λbt162=>(if t143=0 then(if bt152.2=0 then(if bt162.2=0 then((stable_Stable.f k bt162.1 (([1,1]:List Int))).bind λt169=>((r03_Same.f k t169 (([1,1]:List Int))).bind λt175=>(some t175))) else(some false)) else(some false)) else(some false))))=some r:=H
 have A1:=Aside0.mk A10
 clear A10
 obtain ⟨y146,hy146⟩:∃ y_:List Int,y_=(([1,1]:List Int)):=⟨_,rfl⟩
 replace H:((stable_Learn.f k t142 y146 1 (([1,1]:List Int))).bind λbt152=>((stable_Learn.f k bt152.1 (([1,1]:List Int)) 2 (([1,1]:List Int))).bind λbt162=>(if t143=0 then(if bt152.2=0 then(if bt162.2=0 then((stable_Stable.f k bt162.1 (([1,1]:List Int))).bind λt169=>((r03_Same.f k t169 (([1,1]:List Int))).bind λt175=>(some t175))) else(some false)) else(some false)) else(some false))))=some r:=by first|(rw [hy146];with_reducible exact H)|(have H2_:=(Option.bind_some _ _).symm.trans H;rw [hy146];with_reducible exact H2_)|(have H2_:=(Option.bind_some _ _).symm.trans H;with_reducible exact H2_)|with_reducible exact H|(rw [hy146];exact H)|exact H
 have Ny146:=Aside0.mk hy146
 clear hy146
 obtain ⟨y149,hy149⟩:∃ y_:List Int,y_=(([1,1]:List Int)):=⟨_,rfl⟩
 replace H:((stable_Learn.f k t142 y146 1 y149).bind λbt152=>((stable_Learn.f k bt152.1 (([1,1]:List Int)) 2 (([1,1]:List Int))).bind λbt162=>(if t143=0 then(if bt152.2=0 then(if bt162.2=0 then((stable_Stable.f k bt162.1 (([1,1]:List Int))).bind λt169=>((r03_Same.f k t169 (([1,1]:List Int))).bind λt175=>(some t175))) else(some false)) else(some false)) else(some false))))=some r:=by first|(rw [hy149];with_reducible exact H)|(have H2_:=(Option.bind_some _ _).symm.trans H;rw [hy149];with_reducible exact H2_)|(have H2_:=(Option.bind_some _ _).symm.trans H;with_reducible exact H2_)|with_reducible exact H|(rw [hy149];exact H)|exact H
 have Ny149:=Aside0.mk hy149
 clear hy149
 replace H:=oB_ H
 obtain ⟨⟨t152,t155⟩,A20,H⟩:=H
 replace H:((stable_Learn.f k t152 (([1,1]:List Int)) 2 (([1,1]:List Int))).bind λbt162=>(if t143=0 then(if t155=0 then(if bt162.2=0 then((stable_Stable.f k bt162.1 (([1,1]:List Int))).bind λt169=>((r03_Same.f k t169 (([1,1]:List Int))).bind λt175=>(some t175))) else(some false)) else(some false)) else(some false)))=some r:=H
 have A2:=Aside0.mk A20
 clear A20
 obtain ⟨y156,hy156⟩:∃ y_:List Int,y_=(([1,1]:List Int)):=⟨_,rfl⟩
 replace H:((stable_Learn.f k t152 y156 2 (([1,1]:List Int))).bind λbt162=>(if t143=0 then(if t155=0 then(if bt162.2=0 then((stable_Stable.f k bt162.1 (([1,1]:List Int))).bind λt169=>((r03_Same.f k t169 (([1,1]:List Int))).bind λt175=>(some t175))) else(some false)) else(some false)) else(some false)))=some r:=by first|(rw [hy156];with_reducible exact H)|(have H2_:=(Option.bind_some _ _).symm.trans H;rw [hy156];with_reducible exact H2_)|(have H2_:=(Option.bind_some _ _).symm.trans H;with_reducible exact H2_)|with_reducible exact H|(rw [hy156];exact H)|exact H
 have Ny156:=Aside0.mk hy156
 clear hy156
 obtain ⟨y159,hy159⟩:∃ y_:List Int,y_=(([1,1]:List Int)):=⟨_,rfl⟩
 replace H:((stable_Learn.f k t152 y156 2 y159).bind λbt162=>(if t143=0 then(if t155=0 then(if bt162.2=0 then((stable_Stable.f k bt162.1 (([1,1]:List Int))).bind λt169=>((r03_Same.f k t169 (([1,1]:List Int))).bind λt175=>(some t175))) else(some false)) else(some false)) else(some false)))=some r:=by first|(rw [hy159];with_reducible exact H)|(have H2_:=(Option.bind_some _ _).symm.trans H;rw [hy159];with_reducible exact H2_)|(have H2_:=(Option.bind_some _ _).symm.trans H;with_reducible exact H2_)|with_reducible exact H|(rw [hy159];exact H)|exact H
 have Ny159:=Aside0.mk hy159
 clear hy159
 replace H:=oB_ H
 obtain ⟨⟨t162,t165⟩,A30,H⟩:=H
 replace H:(if t143=0 then(if t155=0 then(if t165=0 then((stable_Stable.f k t162 (([1,1]:List Int))).bind λt169=>((r03_Same.f k t169 (([1,1]:List Int))).bind λt175=>(some t175))) else(some false)) else(some false)) else(some false))=some r:=H
 have A3:=Aside0.mk A30
 clear A30
 by_cases c4:t143=0
 rotate_left
 ·rw [if_neg c4] at H
  have c4b0:(t143 == 0)=false:=beq_eq_false_iff_ne.mpr c4
  have c4b1:(t143 != 0)=true:=bne_iff_ne.mpr c4
  obtain rfl:=sI_ H
  go_enter Try.func34,Try.ntmps34
  go_wp2_with (first|((with_reducible refine gate_callee (f:=35) rfl ?_);refine goesL_ (some 6) rfl rfl Try.func35 z2_31 rfl #[.int .i64 2] rfl z2_2 ?_;(with_reducible refine(stable_New.calls 2 t142 t143 _ A1.out).mono ?_);rintro e w69 ⟨v144,rfl,ho0,hb⟩;refine ⟨_,rfl,?_⟩;have HO145:=U (Kd.N_lower (Kd.N_mono (ok':=λk_=>True) (Kd.S_N (Kd.S_bound ho0)) (λk_ hk_=>trivial)) (below_size z1_1));replace HB:=U (below_step z1_1 hb);(try clear hb);(try clear hb2);(try clear hk);(try clear hi);(try clear ho0))|((with_reducible refine gate_dst (N:=11) rfl ?_);(try(refine gate_guard (by rfl) ?_;dsimp only));refine Kd.R_lit (Kd.int .i64) _ 3 ?hg (N:=11) ?hd (xs:=([1,1]:List Int)) (inner:=[.int .i64 1,.int .i64 1]) (ok:=λ_=>True) (okp:=λ_=>True) ?hr ?hp (λ_ hk=>hk) trivial (Below.refl _ _) (Nat.le_refl _) (by simp) ?_;(case hd=>rfl);(case hg=>rfl);(case hr=>exact z2_12);(case hp=>exact z2_5);intro v147 w70 ho71 hb hg_ hnew_;clear hg_ hnew_;(first|rw [<-Ny146.out] at ho71|(simp only [Int.reduceToNat] at ho71;rw [<-Ny146.out] at ho71));replace HO145:=U (Kd.N_elder' z2_3 (Kd.R_base ho71) hb);have HO148:=U (Kd.R_lower ho71 (below_size z1_1));replace HB:=U (below_step z1_1 hb);clear hb ho71)|((with_reducible refine gate_dst (N:=12) rfl ?_);(try(refine gate_guard (by rfl) ?_;dsimp only));refine Kd.R_lit (Kd.int .i64) _ 3 ?hg (N:=12) ?hd (xs:=([1,1]:List Int)) (inner:=[.int .i64 1,.int .i64 1]) (ok:=λ_=>True) (okp:=λ_=>True) ?hr ?hp (λ_ hk=>hk) trivial (Below.refl _ _) (Nat.le_refl _) (by simp) ?_;(case hd=>rfl);(case hg=>rfl);(case hr=>exact z2_12);(case hp=>exact z2_5);intro v150 w72 ho73 hb hg_ hnew_;clear hg_ hnew_;(first|rw [<-Ny149.out] at ho73|(simp only [Int.reduceToNat] at ho73;rw [<-Ny149.out] at ho73));replace HO145:=U (Kd.N_elder' z2_3 (Kd.R_base ho73) hb);have HO151:=U (Kd.R_lower (Kd.R_new' ho73 (Kd.R_lt z2_1)) (below_size z1_1));replace HO148:=U (Kd.R_elder' z2_1 (Kd.R_base ho73) hb);replace HB:=U (below_step z1_1 hb);clear hb ho73;obtain ⟨Ao74,co74,eo74⟩:=Kd.N_slice HO145.out;subst eo74;obtain ⟨Ao75,co75,eo75⟩:=Kd.R_slice HO148.out;subst eo75;obtain ⟨Ao76,co76,eo76⟩:=Kd.R_slice HO151.out;subst eo76)|((with_reducible refine gate_callee (f:=36) rfl ?_);refine goesL_ (some 13) rfl rfl Try.func36 z2_31 rfl #[.slice Ao74 t142.length co74,.slice Ao75 y146.length co75,.int .i64 1,.slice Ao76 y149.length co76] rfl z2_2 ?_;(with_reducible refine(stable_Learn.calls k _ _ t142 _ _ y146 1 (λk_=>some k_=(.slice Ao76 y149.length co76:Value).ownBlock) _ _ y149 t152 t155 _ ?side1 ?side2 ?side3 ?side4 ?side5 A2.out).mono ?_);(case side1=>exact z2_17);(case side2=>exact(Kd.N_reads' HO145.out).2.1);(case side3=>exact z2_18);(case side4=>exact(Kd.R_reads' HO148.out).2.1);(case side5=>exact z2_27);rintro e w77 ⟨v153,rfl,ho0,hb⟩;refine ⟨_,rfl,?_⟩;have HO154:=U (Kd.N_lower (Kd.N_mono (ok':=λk_=>some k_≠(.slice Ao74 t142.length co74:Value).ownBlock/\some k_≠(.slice Ao75 y146.length co75:Value).ownBlock) ho0 (λk_ hk_=>⟨Or.elim hk_ (λhs_=>((Kd.R_apart' (HO151.out) (Kd.N_typed HO145.out) z2_36).1 k_ hs_.symm).2) (λhn_=>(Kd.fresh' (Kd.N_lt z2_3) k_ hn_)),Or.elim hk_ (λhs_=>((Kd.R_apart' (HO151.out) (Kd.N_typed HO145.out) z2_36).1 k_ hs_.symm).1.2) (λhn_=>(Kd.fresh' (Kd.R_lt z2_1) k_ hn_))⟩)) (below_size z1_1));replace HO145:=U (Kd.N_elder' z2_3 (Kd.N_base ho0) hb);replace HO148:=U (Kd.R_below z2_1 hb);replace HO151:=U (Kd.R_below z2_4 hb);replace HB:=U (below_step z1_1 hb);(try clear hb);(try clear hb2);(try clear hk);(try clear hi);(try clear ho0))|((with_reducible refine gate_dst (N:=18) rfl ?_);(try(refine gate_guard (by rfl) ?_;dsimp only));refine Kd.R_lit (Kd.int .i64) _ 3 ?hg (N:=18) ?hd (xs:=([1,1]:List Int)) (inner:=[.int .i64 1,.int .i64 1]) (ok:=λ_=>True) (okp:=λ_=>True) ?hr ?hp (λ_ hk=>hk) trivial (Below.refl _ _) (Nat.le_refl _) (by simp) ?_;(case hd=>rfl);(case hg=>rfl);(case hr=>exact z2_12);(case hp=>exact z2_5);intro v157 w78 ho79 hb hg_ hnew_;clear hg_ hnew_;(first|rw [<-Ny156.out] at ho79|(simp only [Int.reduceToNat] at ho79;rw [<-Ny156.out] at ho79));replace HO145:=U (Kd.N_elder' z2_3 (Kd.R_base ho79) hb);replace HO154:=U (Kd.N_elder' z2_7 (Kd.R_base ho79) hb);have HO158:=U (Kd.R_lower (Kd.R_new' (Kd.R_new' ho79 (Kd.R_lt z2_1)) (Kd.R_lt z2_4)) (below_size z1_1));replace HO148:=U (Kd.R_elder' z2_1 (Kd.R_base ho79) hb);replace HO151:=U (Kd.R_elder' z2_4 (Kd.R_base ho79) hb);replace HB:=U (below_step z1_1 hb);clear hb ho79)|((with_reducible refine gate_dst (N:=19) rfl ?_);(try(refine gate_guard (by rfl) ?_;dsimp only));refine Kd.R_lit (Kd.int .i64) _ 3 ?hg (N:=19) ?hd (xs:=([1,1]:List Int)) (inner:=[.int .i64 1,.int .i64 1]) (ok:=λ_=>True) (okp:=λ_=>True) ?hr ?hp (λ_ hk=>hk) trivial (Below.refl _ _) (Nat.le_refl _) (by simp) ?_;(case hd=>rfl);(case hg=>rfl);(case hr=>exact z2_12);(case hp=>exact z2_5);intro v160 w80 ho81 hb hg_ hnew_;clear hg_ hnew_;(first|rw [<-Ny159.out] at ho81|(simp only [Int.reduceToNat] at ho81;rw [<-Ny159.out] at ho81));replace HO145:=U (Kd.N_elder' z2_3 (Kd.R_base ho81) hb);replace HO154:=U (Kd.N_elder' z2_7 (Kd.R_base ho81) hb);have HO161:=U (Kd.R_lower (Kd.R_new' (Kd.R_new' (Kd.R_new' ho81 (Kd.R_lt z2_1)) (Kd.R_lt z2_4)) (Kd.R_lt z2_6)) (below_size z1_1));replace HO148:=U (Kd.R_elder' z2_1 (Kd.R_base ho81) hb);replace HO151:=U (Kd.R_elder' z2_4 (Kd.R_base ho81) hb);replace HO158:=U (Kd.R_elder' z2_6 (Kd.R_base ho81) hb);replace HB:=U (below_step z1_1 hb);clear hb ho81;obtain ⟨Ao82,co82,eo82⟩:=Kd.N_slice HO154.out;subst eo82;obtain ⟨Ao83,co83,eo83⟩:=Kd.R_slice HO158.out;subst eo83;obtain ⟨Ao84,co84,eo84⟩:=Kd.R_slice HO161.out;subst eo84)|((with_reducible refine gate_callee (f:=36) rfl ?_);refine goesL_ (some 20) rfl rfl Try.func36 z2_31 rfl #[.slice Ao82 t152.length co82,.slice Ao83 y156.length co83,.int .i64 2,.slice Ao84 y159.length co84] rfl z2_2 ?_;(with_reducible refine(stable_Learn.calls k _ _ t152 _ _ y156 2 (λk_=>some k_=(.slice Ao84 y159.length co84:Value).ownBlock) _ _ y159 t162 t165 _ ?side1 ?side2 ?side3 ?side4 ?side5 A3.out).mono ?_);(case side1=>exact z2_19);(case side2=>exact(Kd.N_reads' HO154.out).2.1);(case side3=>exact z2_20);(case side4=>exact(Kd.R_reads' HO158.out).2.1);(case side5=>exact z2_22);rintro e w85 ⟨v163,rfl,ho0,hb⟩;refine ⟨_,rfl,?_⟩;have HO164:=U (Kd.N_lower (Kd.N_mono (ok':=λk_=>some k_≠(.slice Ao74 t142.length co74:Value).ownBlock/\some k_≠(.slice Ao75 y146.length co75:Value).ownBlock/\some k_≠(.slice Ao76 y149.length co76:Value).ownBlock/\some k_≠(.slice Ao82 t152.length co82:Value).ownBlock/\some k_≠(.slice Ao83 y156.length co83:Value).ownBlock) ho0 (λk_ hk_=>⟨Or.elim hk_ (λhs_=>((Kd.R_apart' (Kd.R_apart' (HO161.out) (Kd.N_typed HO145.out) z2_36) (Kd.N_typed HO154.out) z2_36).1 k_ hs_.symm).1.2) (λhn_=>(Kd.fresh' (Kd.N_lt z2_3) k_ hn_)),Or.elim hk_ (λhs_=>((Kd.R_apart' (Kd.R_apart' (HO161.out) (Kd.N_typed HO145.out) z2_36) (Kd.N_typed HO154.out) z2_36).1 k_ hs_.symm).1.1.1.1.2) (λhn_=>(Kd.fresh' (Kd.R_lt z2_1) k_ hn_)),Or.elim hk_ (λhs_=>((Kd.R_apart' (Kd.R_apart' (HO161.out) (Kd.N_typed HO145.out) z2_36) (Kd.N_typed HO154.out) z2_36).1 k_ hs_.symm).1.1.1.2) (λhn_=>(Kd.fresh' (Kd.R_lt z2_4) k_ hn_)),Or.elim hk_ (λhs_=>((Kd.R_apart' (Kd.R_apart' (HO161.out) (Kd.N_typed HO145.out) z2_36) (Kd.N_typed HO154.out) z2_36).1 k_ hs_.symm).2) (λhn_=>(Kd.fresh' (Kd.N_lt z2_7) k_ hn_)),Or.elim hk_ (λhs_=>((Kd.R_apart' (Kd.R_apart' (HO161.out) (Kd.N_typed HO145.out) z2_36) (Kd.N_typed HO154.out) z2_36).1 k_ hs_.symm).1.1.2) (λhn_=>(Kd.fresh' (Kd.R_lt z2_6) k_ hn_))⟩)) (below_size z1_1));replace HO145:=U (Kd.N_elder' z2_3 (Kd.N_base ho0) hb);replace HO148:=U (Kd.R_below z2_1 hb);replace HO151:=U (Kd.R_below z2_4 hb);replace HO154:=U (Kd.N_elder' z2_7 (Kd.N_base ho0) hb);replace HO158:=U (Kd.R_below z2_6 hb);replace HO161:=U (Kd.R_below z2_8 hb);replace HB:=U (below_step z1_1 hb);(try clear hb);(try clear hb2);(try clear hk);(try clear hi);(try clear ho0)))
  go_ret
  exact ⟨z1_4,z1_1⟩
 rw [if_pos c4] at H
 have c4b0:(t143 == 0)=true:=beq_iff_eq.mpr c4
 have c4b1:(t143 != 0)=false:=bne_eq_false_iff_eq.mpr c4
 clear c4
 by_cases c5:t155=0
 rotate_left
 ·rw [if_neg c5] at H
  have c5b0:(t155 == 0)=false:=beq_eq_false_iff_ne.mpr c5
  have c5b1:(t155 != 0)=true:=bne_iff_ne.mpr c5
  obtain rfl:=sI_ H
  go_enter Try.func34,Try.ntmps34
  go_wp2_with (first|((with_reducible refine gate_callee (f:=35) rfl ?_);refine goesL_ (some 6) rfl rfl Try.func35 z2_31 rfl #[.int .i64 2] rfl z2_2 ?_;(with_reducible refine(stable_New.calls 2 t142 t143 _ A1.out).mono ?_);rintro e w52 ⟨v144,rfl,ho0,hb⟩;refine ⟨_,rfl,?_⟩;have HO145:=U (Kd.N_lower (Kd.N_mono (ok':=λk_=>True) (Kd.S_N (Kd.S_bound ho0)) (λk_ hk_=>trivial)) (below_size z1_1));replace HB:=U (below_step z1_1 hb);(try clear hb);(try clear hb2);(try clear hk);(try clear hi);(try clear ho0))|((with_reducible refine gate_dst (N:=11) rfl ?_);(try(refine gate_guard (by rfl) ?_;dsimp only));refine Kd.R_lit (Kd.int .i64) _ 3 ?hg (N:=11) ?hd (xs:=([1,1]:List Int)) (inner:=[.int .i64 1,.int .i64 1]) (ok:=λ_=>True) (okp:=λ_=>True) ?hr ?hp (λ_ hk=>hk) trivial (Below.refl _ _) (Nat.le_refl _) (by simp) ?_;(case hd=>rfl);(case hg=>rfl);(case hr=>exact z2_12);(case hp=>exact z2_5);intro v147 w53 ho54 hb hg_ hnew_;clear hg_ hnew_;(first|rw [<-Ny146.out] at ho54|(simp only [Int.reduceToNat] at ho54;rw [<-Ny146.out] at ho54));replace HO145:=U (Kd.N_elder' z2_3 (Kd.R_base ho54) hb);have HO148:=U (Kd.R_lower ho54 (below_size z1_1));replace HB:=U (below_step z1_1 hb);clear hb ho54)|((with_reducible refine gate_dst (N:=12) rfl ?_);(try(refine gate_guard (by rfl) ?_;dsimp only));refine Kd.R_lit (Kd.int .i64) _ 3 ?hg (N:=12) ?hd (xs:=([1,1]:List Int)) (inner:=[.int .i64 1,.int .i64 1]) (ok:=λ_=>True) (okp:=λ_=>True) ?hr ?hp (λ_ hk=>hk) trivial (Below.refl _ _) (Nat.le_refl _) (by simp) ?_;(case hd=>rfl);(case hg=>rfl);(case hr=>exact z2_12);(case hp=>exact z2_5);intro v150 w55 ho56 hb hg_ hnew_;clear hg_ hnew_;(first|rw [<-Ny149.out] at ho56|(simp only [Int.reduceToNat] at ho56;rw [<-Ny149.out] at ho56));replace HO145:=U (Kd.N_elder' z2_3 (Kd.R_base ho56) hb);have HO151:=U (Kd.R_lower (Kd.R_new' ho56 (Kd.R_lt z2_1)) (below_size z1_1));replace HO148:=U (Kd.R_elder' z2_1 (Kd.R_base ho56) hb);replace HB:=U (below_step z1_1 hb);clear hb ho56;obtain ⟨Ao57,co57,eo57⟩:=Kd.N_slice HO145.out;subst eo57;obtain ⟨Ao58,co58,eo58⟩:=Kd.R_slice HO148.out;subst eo58;obtain ⟨Ao59,co59,eo59⟩:=Kd.R_slice HO151.out;subst eo59)|((with_reducible refine gate_callee (f:=36) rfl ?_);refine goesL_ (some 13) rfl rfl Try.func36 z2_31 rfl #[.slice Ao57 t142.length co57,.slice Ao58 y146.length co58,.int .i64 1,.slice Ao59 y149.length co59] rfl z2_2 ?_;(with_reducible refine(stable_Learn.calls k _ _ t142 _ _ y146 1 (λk_=>some k_=(.slice Ao59 y149.length co59:Value).ownBlock) _ _ y149 t152 t155 _ ?side1 ?side2 ?side3 ?side4 ?side5 A2.out).mono ?_);(case side1=>exact z2_17);(case side2=>exact(Kd.N_reads' HO145.out).2.1);(case side3=>exact z2_18);(case side4=>exact(Kd.R_reads' HO148.out).2.1);(case side5=>exact z2_27);rintro e w60 ⟨v153,rfl,ho0,hb⟩;refine ⟨_,rfl,?_⟩;have HO154:=U (Kd.N_lower (Kd.N_mono (ok':=λk_=>some k_≠(.slice Ao57 t142.length co57:Value).ownBlock/\some k_≠(.slice Ao58 y146.length co58:Value).ownBlock) ho0 (λk_ hk_=>⟨Or.elim hk_ (λhs_=>((Kd.R_apart' (HO151.out) (Kd.N_typed HO145.out) z2_36).1 k_ hs_.symm).2) (λhn_=>(Kd.fresh' (Kd.N_lt z2_3) k_ hn_)),Or.elim hk_ (λhs_=>((Kd.R_apart' (HO151.out) (Kd.N_typed HO145.out) z2_36).1 k_ hs_.symm).1.2) (λhn_=>(Kd.fresh' (Kd.R_lt z2_1) k_ hn_))⟩)) (below_size z1_1));replace HO145:=U (Kd.N_elder' z2_3 (Kd.N_base ho0) hb);replace HO148:=U (Kd.R_below z2_1 hb);replace HO151:=U (Kd.R_below z2_4 hb);replace HB:=U (below_step z1_1 hb);(try clear hb);(try clear hb2);(try clear hk);(try clear hi);(try clear ho0))|((with_reducible refine gate_dst (N:=18) rfl ?_);(try(refine gate_guard (by rfl) ?_;dsimp only));refine Kd.R_lit (Kd.int .i64) _ 3 ?hg (N:=18) ?hd (xs:=([1,1]:List Int)) (inner:=[.int .i64 1,.int .i64 1]) (ok:=λ_=>True) (okp:=λ_=>True) ?hr ?hp (λ_ hk=>hk) trivial (Below.refl _ _) (Nat.le_refl _) (by simp) ?_;(case hd=>rfl);(case hg=>rfl);(case hr=>exact z2_12);(case hp=>exact z2_5);intro v157 w61 ho62 hb hg_ hnew_;clear hg_ hnew_;(first|rw [<-Ny156.out] at ho62|(simp only [Int.reduceToNat] at ho62;rw [<-Ny156.out] at ho62));replace HO145:=U (Kd.N_elder' z2_3 (Kd.R_base ho62) hb);replace HO154:=U (Kd.N_elder' z2_7 (Kd.R_base ho62) hb);have HO158:=U (Kd.R_lower (Kd.R_new' (Kd.R_new' ho62 (Kd.R_lt z2_1)) (Kd.R_lt z2_4)) (below_size z1_1));replace HO148:=U (Kd.R_elder' z2_1 (Kd.R_base ho62) hb);replace HO151:=U (Kd.R_elder' z2_4 (Kd.R_base ho62) hb);replace HB:=U (below_step z1_1 hb);clear hb ho62)|((with_reducible refine gate_dst (N:=19) rfl ?_);(try(refine gate_guard (by rfl) ?_;dsimp only));refine Kd.R_lit (Kd.int .i64) _ 3 ?hg (N:=19) ?hd (xs:=([1,1]:List Int)) (inner:=[.int .i64 1,.int .i64 1]) (ok:=λ_=>True) (okp:=λ_=>True) ?hr ?hp (λ_ hk=>hk) trivial (Below.refl _ _) (Nat.le_refl _) (by simp) ?_;(case hd=>rfl);(case hg=>rfl);(case hr=>exact z2_12);(case hp=>exact z2_5);intro v160 w63 ho64 hb hg_ hnew_;clear hg_ hnew_;(first|rw [<-Ny159.out] at ho64|(simp only [Int.reduceToNat] at ho64;rw [<-Ny159.out] at ho64));replace HO145:=U (Kd.N_elder' z2_3 (Kd.R_base ho64) hb);replace HO154:=U (Kd.N_elder' z2_7 (Kd.R_base ho64) hb);have HO161:=U (Kd.R_lower (Kd.R_new' (Kd.R_new' (Kd.R_new' ho64 (Kd.R_lt z2_1)) (Kd.R_lt z2_4)) (Kd.R_lt z2_6)) (below_size z1_1));replace HO148:=U (Kd.R_elder' z2_1 (Kd.R_base ho64) hb);replace HO151:=U (Kd.R_elder' z2_4 (Kd.R_base ho64) hb);replace HO158:=U (Kd.R_elder' z2_6 (Kd.R_base ho64) hb);replace HB:=U (below_step z1_1 hb);clear hb ho64;obtain ⟨Ao65,co65,eo65⟩:=Kd.N_slice HO154.out;subst eo65;obtain ⟨Ao66,co66,eo66⟩:=Kd.R_slice HO158.out;subst eo66;obtain ⟨Ao67,co67,eo67⟩:=Kd.R_slice HO161.out;subst eo67)|((with_reducible refine gate_callee (f:=36) rfl ?_);refine goesL_ (some 20) rfl rfl Try.func36 z2_31 rfl #[.slice Ao65 t152.length co65,.slice Ao66 y156.length co66,.int .i64 2,.slice Ao67 y159.length co67] rfl z2_2 ?_;(with_reducible refine(stable_Learn.calls k _ _ t152 _ _ y156 2 (λk_=>some k_=(.slice Ao67 y159.length co67:Value).ownBlock) _ _ y159 t162 t165 _ ?side1 ?side2 ?side3 ?side4 ?side5 A3.out).mono ?_);(case side1=>exact z2_19);(case side2=>exact(Kd.N_reads' HO154.out).2.1);(case side3=>exact z2_20);(case side4=>exact(Kd.R_reads' HO158.out).2.1);(case side5=>exact z2_22);rintro e w68 ⟨v163,rfl,ho0,hb⟩;refine ⟨_,rfl,?_⟩;have HO164:=U (Kd.N_lower (Kd.N_mono (ok':=λk_=>some k_≠(.slice Ao57 t142.length co57:Value).ownBlock/\some k_≠(.slice Ao58 y146.length co58:Value).ownBlock/\some k_≠(.slice Ao59 y149.length co59:Value).ownBlock/\some k_≠(.slice Ao65 t152.length co65:Value).ownBlock/\some k_≠(.slice Ao66 y156.length co66:Value).ownBlock) ho0 (λk_ hk_=>⟨Or.elim hk_ (λhs_=>((Kd.R_apart' (Kd.R_apart' (HO161.out) (Kd.N_typed HO145.out) z2_36) (Kd.N_typed HO154.out) z2_36).1 k_ hs_.symm).1.2) (λhn_=>(Kd.fresh' (Kd.N_lt z2_3) k_ hn_)),Or.elim hk_ (λhs_=>((Kd.R_apart' (Kd.R_apart' (HO161.out) (Kd.N_typed HO145.out) z2_36) (Kd.N_typed HO154.out) z2_36).1 k_ hs_.symm).1.1.1.1.2) (λhn_=>(Kd.fresh' (Kd.R_lt z2_1) k_ hn_)),Or.elim hk_ (λhs_=>((Kd.R_apart' (Kd.R_apart' (HO161.out) (Kd.N_typed HO145.out) z2_36) (Kd.N_typed HO154.out) z2_36).1 k_ hs_.symm).1.1.1.2) (λhn_=>(Kd.fresh' (Kd.R_lt z2_4) k_ hn_)),Or.elim hk_ (λhs_=>((Kd.R_apart' (Kd.R_apart' (HO161.out) (Kd.N_typed HO145.out) z2_36) (Kd.N_typed HO154.out) z2_36).1 k_ hs_.symm).2) (λhn_=>(Kd.fresh' (Kd.N_lt z2_7) k_ hn_)),Or.elim hk_ (λhs_=>((Kd.R_apart' (Kd.R_apart' (HO161.out) (Kd.N_typed HO145.out) z2_36) (Kd.N_typed HO154.out) z2_36).1 k_ hs_.symm).1.1.2) (λhn_=>(Kd.fresh' (Kd.R_lt z2_6) k_ hn_))⟩)) (below_size z1_1));replace HO145:=U (Kd.N_elder' z2_3 (Kd.N_base ho0) hb);replace HO148:=U (Kd.R_below z2_1 hb);replace HO151:=U (Kd.R_below z2_4 hb);replace HO154:=U (Kd.N_elder' z2_7 (Kd.N_base ho0) hb);replace HO158:=U (Kd.R_below z2_6 hb);replace HO161:=U (Kd.R_below z2_8 hb);replace HB:=U (below_step z1_1 hb);(try clear hb);(try clear hb2);(try clear hk);(try clear hi);(try clear ho0)))
  go_ret
  exact ⟨z1_4,z1_1⟩
 rw [if_pos c5] at H
 have c5b0:(t155 == 0)=true:=beq_iff_eq.mpr c5
 have c5b1:(t155 != 0)=false:=bne_eq_false_iff_eq.mpr c5
 clear c5
 by_cases c6:t165=0
 rotate_left
 ·rw [if_neg c6] at H
  have c6b0:(t165 == 0)=false:=beq_eq_false_iff_ne.mpr c6
  have c6b1:(t165 != 0)=true:=bne_iff_ne.mpr c6
  obtain rfl:=sI_ H
  go_enter Try.func34,Try.ntmps34
  go_wp2_with (first|((with_reducible refine gate_callee (f:=35) rfl ?_);refine goesL_ (some 6) rfl rfl Try.func35 z2_31 rfl #[.int .i64 2] rfl z2_2 ?_;(with_reducible refine(stable_New.calls 2 t142 t143 _ A1.out).mono ?_);rintro e w35 ⟨v144,rfl,ho0,hb⟩;refine ⟨_,rfl,?_⟩;have HO145:=U (Kd.N_lower (Kd.N_mono (ok':=λk_=>True) (Kd.S_N (Kd.S_bound ho0)) (λk_ hk_=>trivial)) (below_size z1_1));replace HB:=U (below_step z1_1 hb);(try clear hb);(try clear hb2);(try clear hk);(try clear hi);(try clear ho0))|((with_reducible refine gate_dst (N:=11) rfl ?_);(try(refine gate_guard (by rfl) ?_;dsimp only));refine Kd.R_lit (Kd.int .i64) _ 3 ?hg (N:=11) ?hd (xs:=([1,1]:List Int)) (inner:=[.int .i64 1,.int .i64 1]) (ok:=λ_=>True) (okp:=λ_=>True) ?hr ?hp (λ_ hk=>hk) trivial (Below.refl _ _) (Nat.le_refl _) (by simp) ?_;(case hd=>rfl);(case hg=>rfl);(case hr=>exact z2_12);(case hp=>exact z2_5);intro v147 w36 ho37 hb hg_ hnew_;clear hg_ hnew_;(first|rw [<-Ny146.out] at ho37|(simp only [Int.reduceToNat] at ho37;rw [<-Ny146.out] at ho37));replace HO145:=U (Kd.N_elder' z2_3 (Kd.R_base ho37) hb);have HO148:=U (Kd.R_lower ho37 (below_size z1_1));replace HB:=U (below_step z1_1 hb);clear hb ho37)|((with_reducible refine gate_dst (N:=12) rfl ?_);(try(refine gate_guard (by rfl) ?_;dsimp only));refine Kd.R_lit (Kd.int .i64) _ 3 ?hg (N:=12) ?hd (xs:=([1,1]:List Int)) (inner:=[.int .i64 1,.int .i64 1]) (ok:=λ_=>True) (okp:=λ_=>True) ?hr ?hp (λ_ hk=>hk) trivial (Below.refl _ _) (Nat.le_refl _) (by simp) ?_;(case hd=>rfl);(case hg=>rfl);(case hr=>exact z2_12);(case hp=>exact z2_5);intro v150 w38 ho39 hb hg_ hnew_;clear hg_ hnew_;(first|rw [<-Ny149.out] at ho39|(simp only [Int.reduceToNat] at ho39;rw [<-Ny149.out] at ho39));replace HO145:=U (Kd.N_elder' z2_3 (Kd.R_base ho39) hb);have HO151:=U (Kd.R_lower (Kd.R_new' ho39 (Kd.R_lt z2_1)) (below_size z1_1));replace HO148:=U (Kd.R_elder' z2_1 (Kd.R_base ho39) hb);replace HB:=U (below_step z1_1 hb);clear hb ho39;obtain ⟨Ao40,co40,eo40⟩:=Kd.N_slice HO145.out;subst eo40;obtain ⟨Ao41,co41,eo41⟩:=Kd.R_slice HO148.out;subst eo41;obtain ⟨Ao42,co42,eo42⟩:=Kd.R_slice HO151.out;subst eo42)|((with_reducible refine gate_callee (f:=36) rfl ?_);refine goesL_ (some 13) rfl rfl Try.func36 z2_31 rfl #[.slice Ao40 t142.length co40,.slice Ao41 y146.length co41,.int .i64 1,.slice Ao42 y149.length co42] rfl z2_2 ?_;(with_reducible refine(stable_Learn.calls k _ _ t142 _ _ y146 1 (λk_=>some k_=(.slice Ao42 y149.length co42:Value).ownBlock) _ _ y149 t152 t155 _ ?side1 ?side2 ?side3 ?side4 ?side5 A2.out).mono ?_);(case side1=>exact z2_17);(case side2=>exact(Kd.N_reads' HO145.out).2.1);(case side3=>exact z2_18);(case side4=>exact(Kd.R_reads' HO148.out).2.1);(case side5=>exact z2_27);rintro e w43 ⟨v153,rfl,ho0,hb⟩;refine ⟨_,rfl,?_⟩;have HO154:=U (Kd.N_lower (Kd.N_mono (ok':=λk_=>some k_≠(.slice Ao40 t142.length co40:Value).ownBlock/\some k_≠(.slice Ao41 y146.length co41:Value).ownBlock) ho0 (λk_ hk_=>⟨Or.elim hk_ (λhs_=>((Kd.R_apart' (HO151.out) (Kd.N_typed HO145.out) z2_36).1 k_ hs_.symm).2) (λhn_=>(Kd.fresh' (Kd.N_lt z2_3) k_ hn_)),Or.elim hk_ (λhs_=>((Kd.R_apart' (HO151.out) (Kd.N_typed HO145.out) z2_36).1 k_ hs_.symm).1.2) (λhn_=>(Kd.fresh' (Kd.R_lt z2_1) k_ hn_))⟩)) (below_size z1_1));replace HO145:=U (Kd.N_elder' z2_3 (Kd.N_base ho0) hb);replace HO148:=U (Kd.R_below z2_1 hb);replace HO151:=U (Kd.R_below z2_4 hb);replace HB:=U (below_step z1_1 hb);(try clear hb);(try clear hb2);(try clear hk);(try clear hi);(try clear ho0))|((with_reducible refine gate_dst (N:=18) rfl ?_);(try(refine gate_guard (by rfl) ?_;dsimp only));refine Kd.R_lit (Kd.int .i64) _ 3 ?hg (N:=18) ?hd (xs:=([1,1]:List Int)) (inner:=[.int .i64 1,.int .i64 1]) (ok:=λ_=>True) (okp:=λ_=>True) ?hr ?hp (λ_ hk=>hk) trivial (Below.refl _ _) (Nat.le_refl _) (by simp) ?_;(case hd=>rfl);(case hg=>rfl);(case hr=>exact z2_12);(case hp=>exact z2_5);intro v157 w44 ho45 hb hg_ hnew_;clear hg_ hnew_;(first|rw [<-Ny156.out] at ho45|(simp only [Int.reduceToNat] at ho45;rw [<-Ny156.out] at ho45));replace HO145:=U (Kd.N_elder' z2_3 (Kd.R_base ho45) hb);replace HO154:=U (Kd.N_elder' z2_7 (Kd.R_base ho45) hb);have HO158:=U (Kd.R_lower (Kd.R_new' (Kd.R_new' ho45 (Kd.R_lt z2_1)) (Kd.R_lt z2_4)) (below_size z1_1));replace HO148:=U (Kd.R_elder' z2_1 (Kd.R_base ho45) hb);replace HO151:=U (Kd.R_elder' z2_4 (Kd.R_base ho45) hb);replace HB:=U (below_step z1_1 hb);clear hb ho45)|((with_reducible refine gate_dst (N:=19) rfl ?_);(try(refine gate_guard (by rfl) ?_;dsimp only));refine Kd.R_lit (Kd.int .i64) _ 3 ?hg (N:=19) ?hd (xs:=([1,1]:List Int)) (inner:=[.int .i64 1,.int .i64 1]) (ok:=λ_=>True) (okp:=λ_=>True) ?hr ?hp (λ_ hk=>hk) trivial (Below.refl _ _) (Nat.le_refl _) (by simp) ?_;(case hd=>rfl);(case hg=>rfl);(case hr=>exact z2_12);(case hp=>exact z2_5);intro v160 w46 ho47 hb hg_ hnew_;clear hg_ hnew_;(first|rw [<-Ny159.out] at ho47|(simp only [Int.reduceToNat] at ho47;rw [<-Ny159.out] at ho47));replace HO145:=U (Kd.N_elder' z2_3 (Kd.R_base ho47) hb);replace HO154:=U (Kd.N_elder' z2_7 (Kd.R_base ho47) hb);have HO161:=U (Kd.R_lower (Kd.R_new' (Kd.R_new' (Kd.R_new' ho47 (Kd.R_lt z2_1)) (Kd.R_lt z2_4)) (Kd.R_lt z2_6)) (below_size z1_1));replace HO148:=U (Kd.R_elder' z2_1 (Kd.R_base ho47) hb);replace HO151:=U (Kd.R_elder' z2_4 (Kd.R_base ho47) hb);replace HO158:=U (Kd.R_elder' z2_6 (Kd.R_base ho47) hb);replace HB:=U (below_step z1_1 hb);clear hb ho47;obtain ⟨Ao48,co48,eo48⟩:=Kd.N_slice HO154.out;subst eo48;obtain ⟨Ao49,co49,eo49⟩:=Kd.R_slice HO158.out;subst eo49;obtain ⟨Ao50,co50,eo50⟩:=Kd.R_slice HO161.out;subst eo50)|((with_reducible refine gate_callee (f:=36) rfl ?_);refine goesL_ (some 20) rfl rfl Try.func36 z2_31 rfl #[.slice Ao48 t152.length co48,.slice Ao49 y156.length co49,.int .i64 2,.slice Ao50 y159.length co50] rfl z2_2 ?_;(with_reducible refine(stable_Learn.calls k _ _ t152 _ _ y156 2 (λk_=>some k_=(.slice Ao50 y159.length co50:Value).ownBlock) _ _ y159 t162 t165 _ ?side1 ?side2 ?side3 ?side4 ?side5 A3.out).mono ?_);(case side1=>exact z2_19);(case side2=>exact(Kd.N_reads' HO154.out).2.1);(case side3=>exact z2_20);(case side4=>exact(Kd.R_reads' HO158.out).2.1);(case side5=>exact z2_22);rintro e w51 ⟨v163,rfl,ho0,hb⟩;refine ⟨_,rfl,?_⟩;have HO164:=U (Kd.N_lower (Kd.N_mono (ok':=λk_=>some k_≠(.slice Ao40 t142.length co40:Value).ownBlock/\some k_≠(.slice Ao41 y146.length co41:Value).ownBlock/\some k_≠(.slice Ao42 y149.length co42:Value).ownBlock/\some k_≠(.slice Ao48 t152.length co48:Value).ownBlock/\some k_≠(.slice Ao49 y156.length co49:Value).ownBlock) ho0 (λk_ hk_=>⟨Or.elim hk_ (λhs_=>((Kd.R_apart' (Kd.R_apart' (HO161.out) (Kd.N_typed HO145.out) z2_36) (Kd.N_typed HO154.out) z2_36).1 k_ hs_.symm).1.2) (λhn_=>(Kd.fresh' (Kd.N_lt z2_3) k_ hn_)),Or.elim hk_ (λhs_=>((Kd.R_apart' (Kd.R_apart' (HO161.out) (Kd.N_typed HO145.out) z2_36) (Kd.N_typed HO154.out) z2_36).1 k_ hs_.symm).1.1.1.1.2) (λhn_=>(Kd.fresh' (Kd.R_lt z2_1) k_ hn_)),Or.elim hk_ (λhs_=>((Kd.R_apart' (Kd.R_apart' (HO161.out) (Kd.N_typed HO145.out) z2_36) (Kd.N_typed HO154.out) z2_36).1 k_ hs_.symm).1.1.1.2) (λhn_=>(Kd.fresh' (Kd.R_lt z2_4) k_ hn_)),Or.elim hk_ (λhs_=>((Kd.R_apart' (Kd.R_apart' (HO161.out) (Kd.N_typed HO145.out) z2_36) (Kd.N_typed HO154.out) z2_36).1 k_ hs_.symm).2) (λhn_=>(Kd.fresh' (Kd.N_lt z2_7) k_ hn_)),Or.elim hk_ (λhs_=>((Kd.R_apart' (Kd.R_apart' (HO161.out) (Kd.N_typed HO145.out) z2_36) (Kd.N_typed HO154.out) z2_36).1 k_ hs_.symm).1.1.2) (λhn_=>(Kd.fresh' (Kd.R_lt z2_6) k_ hn_))⟩)) (below_size z1_1));replace HO145:=U (Kd.N_elder' z2_3 (Kd.N_base ho0) hb);replace HO148:=U (Kd.R_below z2_1 hb);replace HO151:=U (Kd.R_below z2_4 hb);replace HO154:=U (Kd.N_elder' z2_7 (Kd.N_base ho0) hb);replace HO158:=U (Kd.R_below z2_6 hb);replace HO161:=U (Kd.R_below z2_8 hb);replace HB:=U (below_step z1_1 hb);(try clear hb);(try clear hb2);(try clear hk);(try clear hi);(try clear ho0)))
  go_ret
  exact ⟨z1_4,z1_1⟩
 rw [if_pos c6] at H
 have c6b0:(t165 == 0)=true:=beq_iff_eq.mpr c6
 have c6b1:(t165 != 0)=false:=bne_eq_false_iff_eq.mpr c6
 clear c6
 obtain ⟨y166,hy166⟩:∃ y_:List Int,y_=(([1,1]:List Int)):=⟨_,rfl⟩
 replace H:((stable_Stable.f k t162 y166).bind λt169=>((r03_Same.f k t169 (([1,1]:List Int))).bind λt175=>(some t175)))=some r:=by first|(rw [hy166];with_reducible exact H)|(have H2_:=(Option.bind_some _ _).symm.trans H;rw [hy166];with_reducible exact H2_)|(have H2_:=(Option.bind_some _ _).symm.trans H;with_reducible exact H2_)|with_reducible exact H|(rw [hy166];exact H)|exact H
 have Ny166:=Aside0.mk hy166
 clear hy166
 replace H:=oB_ H
 obtain ⟨t169,A70,H⟩:=H
 replace H:((r03_Same.f k t169 (([1,1]:List Int))).bind λt175=>(some t175))=some r:=H
 have A7:=Aside0.mk A70
 clear A70
 obtain ⟨y172,hy172⟩:∃ y_:List Int,y_=(([1,1]:List Int)):=⟨_,rfl⟩
 replace H:((r03_Same.f k t169 y172).bind λt175=>(some t175))=some r:=by first|(rw [hy172];with_reducible exact H)|(have H2_:=(Option.bind_some _ _).symm.trans H;rw [hy172];with_reducible exact H2_)|(have H2_:=(Option.bind_some _ _).symm.trans H;with_reducible exact H2_)|with_reducible exact H|(rw [hy172];exact H)|exact H
 have Ny172:=Aside0.mk hy172
 clear hy172
 replace H:=oB_ H
 obtain ⟨t175,A80,H⟩:=H
 replace H:(some t175)=some r:=H
 have A8:=Aside0.mk A80
 clear A80
 obtain rfl:=sI_ H
 go_enter Try.func34,Try.ntmps34
 go_wp2_with (first|((with_reducible refine gate_callee (f:=35) rfl ?_);refine goesL_ (some 6) rfl rfl Try.func35 z2_31 rfl #[.int .i64 2] rfl z2_2 ?_;(with_reducible refine(stable_New.calls 2 t142 t143 _ A1.out).mono ?_);rintro e w9 ⟨v144,rfl,ho0,hb⟩;refine ⟨_,rfl,?_⟩;have HO145:=U (Kd.N_lower (Kd.N_mono (ok':=λk_=>True) (Kd.S_N (Kd.S_bound ho0)) (λk_ hk_=>trivial)) (below_size z1_1));replace HB:=U (below_step z1_1 hb);(try clear hb);(try clear hb2);(try clear hk);(try clear hi);(try clear ho0))|((with_reducible refine gate_dst (N:=11) rfl ?_);(try(refine gate_guard (by rfl) ?_;dsimp only));refine Kd.R_lit (Kd.int .i64) _ 3 ?hg (N:=11) ?hd (xs:=([1,1]:List Int)) (inner:=[.int .i64 1,.int .i64 1]) (ok:=λ_=>True) (okp:=λ_=>True) ?hr ?hp (λ_ hk=>hk) trivial (Below.refl _ _) (Nat.le_refl _) (by simp) ?_;(case hd=>rfl);(case hg=>rfl);(case hr=>exact z2_12);(case hp=>exact z2_5);intro v147 w10 ho11 hb hg_ hnew_;clear hg_ hnew_;(first|rw [<-Ny146.out] at ho11|(simp only [Int.reduceToNat] at ho11;rw [<-Ny146.out] at ho11));replace HO145:=U (Kd.N_elder' z2_3 (Kd.R_base ho11) hb);have HO148:=U (Kd.R_lower ho11 (below_size z1_1));replace HB:=U (below_step z1_1 hb);clear hb ho11)|((with_reducible refine gate_dst (N:=12) rfl ?_);(try(refine gate_guard (by rfl) ?_;dsimp only));refine Kd.R_lit (Kd.int .i64) _ 3 ?hg (N:=12) ?hd (xs:=([1,1]:List Int)) (inner:=[.int .i64 1,.int .i64 1]) (ok:=λ_=>True) (okp:=λ_=>True) ?hr ?hp (λ_ hk=>hk) trivial (Below.refl _ _) (Nat.le_refl _) (by simp) ?_;(case hd=>rfl);(case hg=>rfl);(case hr=>exact z2_12);(case hp=>exact z2_5);intro v150 w12 ho13 hb hg_ hnew_;clear hg_ hnew_;(first|rw [<-Ny149.out] at ho13|(simp only [Int.reduceToNat] at ho13;rw [<-Ny149.out] at ho13));replace HO145:=U (Kd.N_elder' z2_3 (Kd.R_base ho13) hb);have HO151:=U (Kd.R_lower (Kd.R_new' ho13 (Kd.R_lt z2_1)) (below_size z1_1));replace HO148:=U (Kd.R_elder' z2_1 (Kd.R_base ho13) hb);replace HB:=U (below_step z1_1 hb);clear hb ho13;obtain ⟨Ao14,co14,eo14⟩:=Kd.N_slice HO145.out;subst eo14;obtain ⟨Ao15,co15,eo15⟩:=Kd.R_slice HO148.out;subst eo15;obtain ⟨Ao16,co16,eo16⟩:=Kd.R_slice HO151.out;subst eo16)|((with_reducible refine gate_callee (f:=36) rfl ?_);refine goesL_ (some 13) rfl rfl Try.func36 z2_31 rfl #[.slice Ao14 t142.length co14,.slice Ao15 y146.length co15,.int .i64 1,.slice Ao16 y149.length co16] rfl z2_2 ?_;(with_reducible refine(stable_Learn.calls k _ _ t142 _ _ y146 1 (λk_=>some k_=(.slice Ao16 y149.length co16:Value).ownBlock) _ _ y149 t152 t155 _ ?side1 ?side2 ?side3 ?side4 ?side5 A2.out).mono ?_);(case side1=>exact z2_17);(case side2=>exact(Kd.N_reads' HO145.out).2.1);(case side3=>exact z2_18);(case side4=>exact(Kd.R_reads' HO148.out).2.1);(case side5=>exact z2_27);rintro e w17 ⟨v153,rfl,ho0,hb⟩;refine ⟨_,rfl,?_⟩;have HO154:=U (Kd.N_lower (Kd.N_mono (ok':=λk_=>some k_≠(.slice Ao14 t142.length co14:Value).ownBlock/\some k_≠(.slice Ao15 y146.length co15:Value).ownBlock) ho0 (λk_ hk_=>⟨Or.elim hk_ (λhs_=>((Kd.R_apart' (HO151.out) (Kd.N_typed HO145.out) z2_36).1 k_ hs_.symm).2) (λhn_=>(Kd.fresh' (Kd.N_lt z2_3) k_ hn_)),Or.elim hk_ (λhs_=>((Kd.R_apart' (HO151.out) (Kd.N_typed HO145.out) z2_36).1 k_ hs_.symm).1.2) (λhn_=>(Kd.fresh' (Kd.R_lt z2_1) k_ hn_))⟩)) (below_size z1_1));replace HO145:=U (Kd.N_elder' z2_3 (Kd.N_base ho0) hb);replace HO148:=U (Kd.R_below z2_1 hb);replace HO151:=U (Kd.R_below z2_4 hb);replace HB:=U (below_step z1_1 hb);(try clear hb);(try clear hb2);(try clear hk);(try clear hi);(try clear ho0))|((with_reducible refine gate_dst (N:=18) rfl ?_);(try(refine gate_guard (by rfl) ?_;dsimp only));refine Kd.R_lit (Kd.int .i64) _ 3 ?hg (N:=18) ?hd (xs:=([1,1]:List Int)) (inner:=[.int .i64 1,.int .i64 1]) (ok:=λ_=>True) (okp:=λ_=>True) ?hr ?hp (λ_ hk=>hk) trivial (Below.refl _ _) (Nat.le_refl _) (by simp) ?_;(case hd=>rfl);(case hg=>rfl);(case hr=>exact z2_12);(case hp=>exact z2_5);intro v157 w18 ho19 hb hg_ hnew_;clear hg_ hnew_;(first|rw [<-Ny156.out] at ho19|(simp only [Int.reduceToNat] at ho19;rw [<-Ny156.out] at ho19));replace HO145:=U (Kd.N_elder' z2_3 (Kd.R_base ho19) hb);replace HO154:=U (Kd.N_elder' z2_7 (Kd.R_base ho19) hb);have HO158:=U (Kd.R_lower (Kd.R_new' (Kd.R_new' ho19 (Kd.R_lt z2_1)) (Kd.R_lt z2_4)) (below_size z1_1));replace HO148:=U (Kd.R_elder' z2_1 (Kd.R_base ho19) hb);replace HO151:=U (Kd.R_elder' z2_4 (Kd.R_base ho19) hb);replace HB:=U (below_step z1_1 hb);clear hb ho19)|((with_reducible refine gate_dst (N:=19) rfl ?_);(try(refine gate_guard (by rfl) ?_;dsimp only));refine Kd.R_lit (Kd.int .i64) _ 3 ?hg (N:=19) ?hd (xs:=([1,1]:List Int)) (inner:=[.int .i64 1,.int .i64 1]) (ok:=λ_=>True) (okp:=λ_=>True) ?hr ?hp (λ_ hk=>hk) trivial (Below.refl _ _) (Nat.le_refl _) (by simp) ?_;(case hd=>rfl);(case hg=>rfl);(case hr=>exact z2_12);(case hp=>exact z2_5);intro v160 w20 ho21 hb hg_ hnew_;clear hg_ hnew_;(first|rw [<-Ny159.out] at ho21|(simp only [Int.reduceToNat] at ho21;rw [<-Ny159.out] at ho21));replace HO145:=U (Kd.N_elder' z2_3 (Kd.R_base ho21) hb);replace HO154:=U (Kd.N_elder' z2_7 (Kd.R_base ho21) hb);have HO161:=U (Kd.R_lower (Kd.R_new' (Kd.R_new' (Kd.R_new' ho21 (Kd.R_lt z2_1)) (Kd.R_lt z2_4)) (Kd.R_lt z2_6)) (below_size z1_1));replace HO148:=U (Kd.R_elder' z2_1 (Kd.R_base ho21) hb);replace HO151:=U (Kd.R_elder' z2_4 (Kd.R_base ho21) hb);replace HO158:=U (Kd.R_elder' z2_6 (Kd.R_base ho21) hb);replace HB:=U (below_step z1_1 hb);clear hb ho21;obtain ⟨Ao22,co22,eo22⟩:=Kd.N_slice HO154.out;subst eo22;obtain ⟨Ao23,co23,eo23⟩:=Kd.R_slice HO158.out;subst eo23;obtain ⟨Ao24,co24,eo24⟩:=Kd.R_slice HO161.out;subst eo24)|((with_reducible refine gate_callee (f:=36) rfl ?_);refine goesL_ (some 20) rfl rfl Try.func36 z2_31 rfl #[.slice Ao22 t152.length co22,.slice Ao23 y156.length co23,.int .i64 2,.slice Ao24 y159.length co24] rfl z2_2 ?_;(with_reducible refine(stable_Learn.calls k _ _ t152 _ _ y156 2 (λk_=>some k_=(.slice Ao24 y159.length co24:Value).ownBlock) _ _ y159 t162 t165 _ ?side1 ?side2 ?side3 ?side4 ?side5 A3.out).mono ?_);(case side1=>exact z2_19);(case side2=>exact(Kd.N_reads' HO154.out).2.1);(case side3=>exact z2_20);(case side4=>exact(Kd.R_reads' HO158.out).2.1);(case side5=>exact z2_22);rintro e w25 ⟨v163,rfl,ho0,hb⟩;refine ⟨_,rfl,?_⟩;have HO164:=U (Kd.N_lower (Kd.N_mono (ok':=λk_=>some k_≠(.slice Ao14 t142.length co14:Value).ownBlock/\some k_≠(.slice Ao15 y146.length co15:Value).ownBlock/\some k_≠(.slice Ao16 y149.length co16:Value).ownBlock/\some k_≠(.slice Ao22 t152.length co22:Value).ownBlock/\some k_≠(.slice Ao23 y156.length co23:Value).ownBlock) ho0 (λk_ hk_=>⟨Or.elim hk_ (λhs_=>((Kd.R_apart' (Kd.R_apart' (HO161.out) (Kd.N_typed HO145.out) z2_36) (Kd.N_typed HO154.out) z2_36).1 k_ hs_.symm).1.2) (λhn_=>(Kd.fresh' (Kd.N_lt z2_3) k_ hn_)),Or.elim hk_ (λhs_=>((Kd.R_apart' (Kd.R_apart' (HO161.out) (Kd.N_typed HO145.out) z2_36) (Kd.N_typed HO154.out) z2_36).1 k_ hs_.symm).1.1.1.1.2) (λhn_=>(Kd.fresh' (Kd.R_lt z2_1) k_ hn_)),Or.elim hk_ (λhs_=>((Kd.R_apart' (Kd.R_apart' (HO161.out) (Kd.N_typed HO145.out) z2_36) (Kd.N_typed HO154.out) z2_36).1 k_ hs_.symm).1.1.1.2) (λhn_=>(Kd.fresh' (Kd.R_lt z2_4) k_ hn_)),Or.elim hk_ (λhs_=>((Kd.R_apart' (Kd.R_apart' (HO161.out) (Kd.N_typed HO145.out) z2_36) (Kd.N_typed HO154.out) z2_36).1 k_ hs_.symm).2) (λhn_=>(Kd.fresh' (Kd.N_lt z2_7) k_ hn_)),Or.elim hk_ (λhs_=>((Kd.R_apart' (Kd.R_apart' (HO161.out) (Kd.N_typed HO145.out) z2_36) (Kd.N_typed HO154.out) z2_36).1 k_ hs_.symm).1.1.2) (λhn_=>(Kd.fresh' (Kd.R_lt z2_6) k_ hn_))⟩)) (below_size z1_1));replace HO145:=U (Kd.N_elder' z2_3 (Kd.N_base ho0) hb);replace HO148:=U (Kd.R_below z2_1 hb);replace HO151:=U (Kd.R_below z2_4 hb);replace HO154:=U (Kd.N_elder' z2_7 (Kd.N_base ho0) hb);replace HO158:=U (Kd.R_below z2_6 hb);replace HO161:=U (Kd.R_below z2_8 hb);replace HB:=U (below_step z1_1 hb);(try clear hb);(try clear hb2);(try clear hk);(try clear hi);(try clear ho0))|((with_reducible refine gate_dst (N:=35) rfl ?_);(try(refine gate_guard (by rfl) ?_;dsimp only));refine Kd.R_lit (Kd.int .i64) _ 3 ?hg (N:=35) ?hd (xs:=([1,1]:List Int)) (inner:=[.int .i64 1,.int .i64 1]) (ok:=λ_=>True) (okp:=λ_=>True) ?hr ?hp (λ_ hk=>hk) trivial (Below.refl _ _) (Nat.le_refl _) (by simp) ?_;(case hd=>rfl);(case hg=>rfl);(case hr=>exact z2_12);(case hp=>exact z2_5);intro v167 w26 ho27 hb hg_ hnew_;clear hg_ hnew_;(first|rw [<-Ny166.out] at ho27|(simp only [Int.reduceToNat] at ho27;rw [<-Ny166.out] at ho27));replace HO145:=U (Kd.N_elder' z2_3 (Kd.R_base ho27) hb);replace HO154:=U (Kd.N_elder' z2_7 (Kd.R_base ho27) hb);replace HO164:=U (Kd.N_elder' z2_28 (Kd.R_base ho27) hb);have HO168:=U (Kd.R_lower (Kd.R_new' (Kd.R_new' (Kd.R_new' (Kd.R_new' ho27 (Kd.R_lt z2_1)) (Kd.R_lt z2_4)) (Kd.R_lt z2_6)) (Kd.R_lt z2_8)) (below_size z1_1));replace HO148:=U (Kd.R_elder' z2_1 (Kd.R_base ho27) hb);replace HO151:=U (Kd.R_elder' z2_4 (Kd.R_base ho27) hb);replace HO158:=U (Kd.R_elder' z2_6 (Kd.R_base ho27) hb);replace HO161:=U (Kd.R_elder' z2_8 (Kd.R_base ho27) hb);replace HB:=U (below_step z1_1 hb);clear hb ho27;obtain ⟨Ao28,co28,eo28⟩:=Kd.N_slice HO164.out;subst eo28;obtain ⟨Ao29,co29,eo29⟩:=Kd.R_slice HO168.out;subst eo29)|(go_at_call 37;(with_reducible refine(stable_Stable.calls k _ _ t162 _ _ y166 t169 _ ?side1 ?side2 ?side3 ?side4 A7.out).mono ?_);(case side1=>repeat(first|exact(Kd.N_reads' HO164.out).2.2|(with_reducible refine Kd.C_alloc ?_ _)|(with_reducible refine Kd.C_drewN ?_ _)|(with_reducible refine Kd.C_drew ?_)));(case side2=>exact(Kd.N_reads' HO164.out).2.1);(case side3=>repeat(first|exact(Kd.R_reads' HO168.out).2.2|(with_reducible refine Kd.C_alloc ?_ _)|(with_reducible refine Kd.C_drewN ?_ _)|(with_reducible refine Kd.C_drew ?_)));(case side4=>exact(Kd.R_reads' HO168.out).2.1);rintro e w30 ⟨v170,rfl,ho0,hb⟩;replace HO145:=U (Kd.N_elder' z2_3 (Kd.R_base ho0) hb);replace HO154:=U (Kd.N_elder' z2_7 (Kd.R_base ho0) hb);replace HO164:=U (Kd.N_elder' z2_28 (Kd.R_base ho0) hb);have HO171:=U (Kd.R_lower (Kd.R_new' (Kd.R_new' (Kd.R_new' (Kd.R_new' (Kd.R_new' ho0 (Kd.R_lt z2_1)) (Kd.R_lt z2_4)) (Kd.R_lt z2_6)) (Kd.R_lt z2_8)) (Kd.R_lt z2_24)) (below_size z1_1));replace HO148:=U (Kd.R_elder' z2_1 (Kd.R_base ho0) hb);replace HO151:=U (Kd.R_elder' z2_4 (Kd.R_base ho0) hb);replace HO158:=U (Kd.R_elder' z2_6 (Kd.R_base ho0) hb);replace HO161:=U (Kd.R_elder' z2_8 (Kd.R_base ho0) hb);replace HO168:=U (Kd.R_elder' z2_24 (Kd.R_base ho0) hb);replace HB:=U (below_step z1_1 hb);(try clear hb);(try clear hb2);(try clear hk);(try clear hi);(try clear ho0))|((with_reducible refine gate_dst (N:=37) rfl ?_);(try(refine gate_guard (by rfl) ?_;dsimp only));refine Kd.R_lit (Kd.int .i64) _ 3 ?hg (N:=37) ?hd (xs:=([1,1]:List Int)) (inner:=[.int .i64 1,.int .i64 1]) (ok:=λ_=>True) (okp:=λ_=>True) ?hr ?hp (λ_ hk=>hk) trivial (Below.refl _ _) (Nat.le_refl _) (by simp) ?_;(case hd=>rfl);(case hg=>rfl);(case hr=>exact z2_12);(case hp=>exact z2_5);intro v173 w31 ho32 hb hg_ hnew_;clear hg_ hnew_;(first|rw [<-Ny172.out] at ho32|(simp only [Int.reduceToNat] at ho32;rw [<-Ny172.out] at ho32));replace HO145:=U (Kd.N_elder' z2_3 (Kd.R_base ho32) hb);replace HO154:=U (Kd.N_elder' z2_7 (Kd.R_base ho32) hb);replace HO164:=U (Kd.N_elder' z2_28 (Kd.R_base ho32) hb);have HO174:=U (Kd.R_lower (Kd.R_new' (Kd.R_new' (Kd.R_new' (Kd.R_new' (Kd.R_new' (Kd.R_new' ho32 (Kd.R_lt z2_1)) (Kd.R_lt z2_4)) (Kd.R_lt z2_6)) (Kd.R_lt z2_8)) (Kd.R_lt z2_24)) (Kd.R_lt (by(with_reducible repeat(first|apply Kd.R_alloc|apply Kd.R_drewN|apply Kd.R_drew));exact HO171.out))) (below_size z1_1));replace HO148:=U (Kd.R_elder' z2_1 (Kd.R_base ho32) hb);replace HO151:=U (Kd.R_elder' z2_4 (Kd.R_base ho32) hb);replace HO158:=U (Kd.R_elder' z2_6 (Kd.R_base ho32) hb);replace HO161:=U (Kd.R_elder' z2_8 (Kd.R_base ho32) hb);replace HO168:=U (Kd.R_elder' z2_24 (Kd.R_base ho32) hb);replace HO171:=U (Kd.R_elder' (by(with_reducible repeat(first|apply Kd.R_alloc|apply Kd.R_drewN|apply Kd.R_drew));exact HO171.out) (Kd.R_base ho32) hb);replace HB:=U (below_step z1_1 hb);clear hb ho32;obtain ⟨Ao33,co33,eo33⟩:=Kd.R_slice HO171.out;subst eo33;obtain ⟨Ao34,co34,eo34⟩:=Kd.R_slice HO174.out;subst eo34)|(go_at_call 16;(with_reducible refine(r03_Same.calls k _ _ t169 _ _ y172 t175 _ ?side1 ?side2 ?side3 ?side4 A8.out).mono ?_);(case side1=>repeat(first|exact(Kd.R_reads' HO171.out).2.2|(with_reducible refine Kd.C_alloc ?_ _)|(with_reducible refine Kd.C_drewN ?_ _)|(with_reducible refine Kd.C_drew ?_)));(case side2=>exact(Kd.R_reads' HO171.out).2.1);(case side3=>repeat(first|exact(Kd.R_reads' HO174.out).2.2|(with_reducible refine Kd.C_alloc ?_ _)|(with_reducible refine Kd.C_drewN ?_ _)|(with_reducible refine Kd.C_drew ?_)));(case side4=>exact(Kd.R_reads' HO174.out).2.1);rintro e w' ⟨rfl,⟨nd,rfl⟩⟩))
 go_ret
 exact ⟨z1_4,z1_1⟩
def r03_Get.f (k:Nat) (l0:List Int) (a1:Int):Option (Int):=(r03_May.f k l0).bind λt179=>(if t179=true then(if a1<1 then(some 0) else(if a1 > (l0.length:Int) then(some 0) else(if 0<=(wrap64 (a1 - 1)) then(if (wrap64 (a1 - 1))<(l0.length:Int) then(some (rd l0 (wrap64 (a1 - 1)))) else(none)) else(none)))) else(some 0))
theorem r03_Get.calls (k:Nat) (A0:Option Addr) (c0:Nat) (l0:List Int) (a1:Int) (r:Int) (w:World) (hr0:Kd.C (Kd.int .i64) w A0 l0.length l0) (hc0:l0.length<=c0) (h:r03_Get.f k l0 a1=some r) :
  Calls Try.prog 30 #[.slice A0 l0.length c0,.int .i64 a1] w λe w'=>e = .returned (.int .i64 r)/\Drawn0 w w':=by
 have HR0:=Aside0.mk hr0
 have HC0:=Aside0.mk hc0
 clear hr0 hc0
 have H:((r03_May.f k l0).bind λt179=>(if t179=true then(if a1<1 then(some 0) else(if a1 > (l0.length:Int) then(some 0) else(if 0<=(wrap64 (a1 - 1)) then(if (wrap64 (a1 - 1))<(l0.length:Int) then(some (rd l0 (wrap64 (a1 - 1)))) else(none)) else(none)))) else(some 0)))=some r:=h
 clear h
 replace H:=oB_ H
 obtain ⟨t179,A30,H⟩:=H
 replace H:(if t179=true then(if a1<1 then(some 0) else(if a1 > (l0.length:Int) then(some 0) else(if 0<=(wrap64 (a1 - 1)) then(if (wrap64 (a1 - 1))<(l0.length:Int) then(some (rd l0 (wrap64 (a1 - 1)))) else(none)) else(none)))) else(some 0))=some r:=H
 have A3:=Aside0.mk A30
 clear A30
 by_cases c4:t179=true
 rotate_left
 ·replace c4:=Bool.eq_false_iff.mpr c4
  subst c4
  have H1:(some 0)=some r:=by rw [if_neg (show ¬ (false=true) by decide)] at H;exact H
  clear H
  have H:=H1
  clear H1
  obtain rfl:=sI_ H
  go_enter Try.func30,Try.ntmps30
  go_wp2_with (first|((with_reducible refine gate_callee (f:=27) rfl ?_);refine goesL_ (some 6) rfl rfl Try.func27 z2_31 rfl #[.slice A0 l0.length c0] rfl z2_2 ?_;(with_reducible refine(r03_May.calls k _ _ l0 false _ ?side1 ?side2 A3.out).mono ?_);(case side1=>exact z2_11);(case side2=>exact HC0.out);rintro e w' ⟨rfl,⟨nd,rfl⟩⟩;refine ⟨_,rfl,?_⟩))
  go_ret
  exact ⟨z1_3,z1_2⟩
 subst c4
 have H1:(if a1<1 then(some 0) else(if a1 > (l0.length:Int) then(some 0) else(if 0<=(wrap64 (a1 - 1)) then(if (wrap64 (a1 - 1))<(l0.length:Int) then(some (rd l0 (wrap64 (a1 - 1)))) else(none)) else(none))))=some r:=by rw [if_pos rfl] at H;exact H
 clear H
 have H:=H1
 clear H1
 by_cases c5:a1<1
 ·rw [if_pos c5] at H
  have c5b0:decide (a1<1)=true:=dT_ c5
  clear c5
  obtain rfl:=sI_ H
  go_enter Try.func30,Try.ntmps30
  go_wp2_with (first|((with_reducible refine gate_callee (f:=27) rfl ?_);refine goesL_ (some 6) rfl rfl Try.func27 z2_31 rfl #[.slice A0 l0.length c0] rfl z2_2 ?_;(with_reducible refine(r03_May.calls k _ _ l0 true _ ?side1 ?side2 A3.out).mono ?_);(case side1=>exact z2_11);(case side2=>exact HC0.out);rintro e w' ⟨rfl,⟨nd,rfl⟩⟩;refine ⟨_,rfl,?_⟩))
  go_ret
  exact ⟨z1_3,z1_2⟩
 rw [if_neg c5] at H
 have c5b0:decide (a1<1)=false:=dF_ c5
 clear c5
 by_cases c6:a1 > (l0.length:Int)
 ·rw [if_pos c6] at H
  have c6b0:decide ((l0.length:Int)<a1)=true:=dT_ c6
  clear c6
  obtain rfl:=sI_ H
  go_enter Try.func30,Try.ntmps30
  go_wp2_with (first|((with_reducible refine gate_callee (f:=27) rfl ?_);refine goesL_ (some 6) rfl rfl Try.func27 z2_31 rfl #[.slice A0 l0.length c0] rfl z2_2 ?_;(with_reducible refine(r03_May.calls k _ _ l0 true _ ?side1 ?side2 A3.out).mono ?_);(case side1=>exact z2_11);(case side2=>exact HC0.out);rintro e w' ⟨rfl,⟨nd,rfl⟩⟩;refine ⟨_,rfl,?_⟩))
  go_ret
  exact ⟨z1_3,z1_2⟩
 rw [if_neg c6] at H
 have c6b0:decide ((l0.length:Int)<a1)=false:=dF_ c6
 clear c6
 obtain ⟨ji7,hji7⟩:∃ j_:Int,(wrap64 (a1 - 1))=j_:=⟨_,rfl⟩
 replace H:(if 0<=(ji7) then(if (ji7)<(l0.length:Int) then(some (rd l0 (ji7))) else(none)) else(none))=some r:=by first|(rw [hji7] at H;exact H)|(simp only [hji7] at H ⊢;exact H)
 (try rw [hji7] at A3)
 have hji7w:(IntKind.i64.wrap (a1 - 1))=ji7:=(i64_w _).trans hji7
 (try rw [hji7] at c5b0)
 (try rw [hji7] at c5b0)
 (try rw [hji7] at c6b0)
 (try rw [hji7] at c6b0)
 by_cases c8:0<=(ji7)
 rotate_left
 ·rw [if_neg c8] at H
  exact absurd H (by simp)
 rw [if_pos c8] at H
 have c8b0:decide (0<=(ji7))=true:=dT_ c8
 clear c8
 by_cases c9:(ji7)<(l0.length:Int)
 rotate_left
 ·rw [if_neg c9] at H
  exact absurd H (by simp)
 rw [if_pos c9] at H
 have c9b0:decide ((ji7)<(l0.length:Int))=true:=dT_ c9
 clear c9
 obtain rfl:=sI_ H
 go_enter Try.func30,Try.ntmps30
 go_wp2_with (first|((with_reducible refine gate_callee (f:=27) rfl ?_);refine goesL_ (some 6) rfl rfl Try.func27 z2_31 rfl #[.slice A0 l0.length c0] rfl z2_2 ?_;(with_reducible refine(r03_May.calls k _ _ l0 true _ ?side1 ?side2 A3.out).mono ?_);(case side1=>exact z2_11);(case side2=>exact HC0.out);rintro e w' ⟨rfl,⟨nd,rfl⟩⟩;refine ⟨_,rfl,?_⟩;have p180:0<=((ji7):Int):=oD_ z1_0;have q180:(ji7)<(l0.length:Int):=oD_ z1_0;obtain ⟨ad180,e180,hx180_0⟩:=Kd.at_int HR0.out (ji7) p180 q180;cases e180;replace p180:=eq_true p180;replace q180:=eq_true q180))
 go_ret
 exact ⟨(by first|rfl|(simp;done)|(simp only [<-hji7]<;>(first|rfl|simp))|(simp [*];done)),z1_2⟩
end Go.Proofs.Ytjpjdipdhakjnaa.PStab
