/- a part -/
import Derived.Test.YtgocnchjpecafaaPEvx14
namespace Go.Proofs.Ytgocnchjpecafaa.PEv
open Go.RowKit Go.Proofs.YtgocnchjpecafaaW.PrintWords Go.Proofs.YtgocnchjpecafaaW.PrintLast Go.Proofs.YtgocnchjpecafaaW.PrintMore
attribute [local go_sem] max2_int min2_int max_two min_two max_three min_three max_four min_four
set_option linter.unusedVariables false
set_option linter.unusedSimpArgs false
set_option maxHeartbeats 8000000
set_option maxRecDepth 100000
theorem z15_3 {P:Prop} (h:P:=by repeat(first|(with_reducible exact HR341_0.out)|(with_reducible refine Kd.C_alloc ?_ _)|(with_reducible refine Kd.C_drewN ?_ _)|(with_reducible refine Kd.C_drew ?_)|exact HR341_0.out)):P:=h
theorem z15_4 {P:Prop} (h:P:=by(with_reducible repeat(first|apply Kd.R_alloc|apply Kd.R_drewN|apply Kd.R_drew));exact HO_6.out):P:=h
theorem z15_8 {P:Prop} (h:P:=by(with_reducible repeat(first|apply Kd.S_alloc|apply Kd.S_drewN|apply Kd.S_drew));exact HO_4.out):P:=h
theorem z15_10 {P:Prop} (h:P:=by(try simp only [List.map_toArray,List.map_cons,List.map_nil]);first|done|(rw [show(l0.take (t335:Int).toNat).length=t335.toNat from(by rw [List.length_take];have h_:(t335:Int)<=(l0.length:Int):=oD_ z10_1;omega)]<;>rfl)|rfl|(simp only [List.length_drop,List.length_take];rfl)):P:=h
theorem z15_11 {P:Prop} (h:P:=by(with_reducible repeat(first|apply Kd.R_alloc|apply Kd.R_drewN|apply Kd.R_drew));exact HL341_0.out):P:=h
theorem z15_13 {P:Prop} (h:P:=by repeat(first|exact z15_3|(with_reducible refine Kd.C_alloc ?_ _)|(with_reducible refine Kd.C_drewN ?_ _)|(with_reducible refine Kd.C_drew ?_))):P:=h
theorem z15_14 {P:Prop} (h:P:=by first|exact q341|exact oD_ z10_1|(have e_:=(Kd.S_reads' HO_4.out).1;omega)):P:=h
theorem z15_15 {P:Prop} (h:P:=by repeat(first|exact(Kd.C_below HR350.out HB.out)|(with_reducible refine Kd.C_alloc ?_ _)|(with_reducible refine Kd.C_drewN ?_ _)|(with_reducible refine Kd.C_drew ?_))):P:=h
theorem z15_16 {P:Prop} (h:P:=by repeat(first|exact(Kd.R_reads' HO349.out).2.2|(with_reducible refine Kd.C_alloc ?_ _)|(with_reducible refine Kd.C_drewN ?_ _)|(with_reducible refine Kd.C_drew ?_))):P:=h
theorem z15_17 {P:Prop} (h:P:=by repeat(first|exact(Kd.R_reads' HO_6.out).2.2|(with_reducible refine Kd.C_alloc ?_ _)|(with_reducible refine Kd.C_drewN ?_ _)|(with_reducible refine Kd.C_drew ?_))):P:=h
def r05_number.f (k:Nat) (l0:List Int):Option (Int×Bool):=(r02_GetNum.f k l0).bind λbt332=>(if bt332.2=0 then(some (0,false)) else(if bt332.2=(l0.length:Int) then(if bt332.1 > 1048576 then(some (0,false)) else(some (wrap64 (bt332.1),true))) else(some (0,false))))
theorem r05_number.calls (k:Nat) (A0:Option Addr) (c0:Nat) (l0:List Int) (r1:Int) (r2:Bool) (w:World) (hr0:Kd.C (Kd.int .u8) w A0 l0.length l0) (hc0:l0.length<=c0) (h:r05_number.f k l0=some (r1,r2)) :
  Calls Try.prog 54 #[.slice A0 l0.length c0] w λe w'=>e = .returned (.tuple #[.int .i64 r1,.bool r2])/\Below w.heap.size w w':=by
 have HR0:=Aside0.mk hr0
 have HC0:=Aside0.mk hc0
 clear hr0 hc0
 have HB:=U (Below.refl w.heap.size w)
 have H:((r02_GetNum.f k l0).bind λbt332=>(if bt332.2=0 then(some (0,false)) else(if bt332.2=(l0.length:Int) then(if bt332.1 > 1048576 then(some (0,false)) else(some (wrap64 (bt332.1),true))) else(some (0,false)))))=some (r1,r2):=h
 clear h
 replace H:=oB_ H
 obtain ⟨⟨t332,t333⟩,A20,H⟩:=H
 replace H:(if t333=0 then(some (0,false)) else(if t333=(l0.length:Int) then(if t332 > 1048576 then(some (0,false)) else(some (wrap64 (t332),true))) else(some (0,false))))=some (r1,r2):=H
 have A2:=Aside0.mk A20
 clear A20
 by_cases c3:t333=0
 ·rw [if_pos c3] at H
  have c3b0:(t333 == 0)=true:=beq_iff_eq.mpr c3
  have c3b1:(t333 != 0)=false:=bne_eq_false_iff_eq.mpr c3
  clear c3
  simp only [Option.some.injEq,Prod.mk.injEq] at H
  obtain ⟨rfl,rfl⟩:=H
  go_enter Try.func54,Try.ntmps54
  go_wp2_with (first|((with_reducible refine gate_callee (f:=87) rfl ?_);refine goesL_ (some 8) rfl rfl Try.func87 z14_15 rfl #[.slice A0 l0.length c0] rfl z10_2 ?_;(with_reducible refine(r02_GetNum.calls k _ _ l0 t332 t333 _ ?side1 ?side2 A2.out).mono ?_);(case side1=>exact z10_6);(case side2=>exact HC0.out);rintro e w4 ⟨rfl,hb⟩;refine ⟨_,rfl,?_⟩;replace HB:=U (below_step z10_0 hb);(try clear hb);(try clear hb2);(try clear hk);(try clear hi)))
  go_ret2
  exact ⟨z10_8,z10_0⟩
 rw [if_neg c3] at H
 have c3b0:(t333 == 0)=false:=beq_eq_false_iff_ne.mpr c3
 have c3b1:(t333 != 0)=true:=bne_iff_ne.mpr c3
 by_cases c5:t333=(l0.length:Int)
 rotate_left
 ·rw [if_neg c5] at H
  have c5b0:(t333 == (l0.length:Int))=false:=beq_eq_false_iff_ne.mpr c5
  have c5b1:(t333 != (l0.length:Int))=true:=bne_iff_ne.mpr c5
  simp only [Option.some.injEq,Prod.mk.injEq] at H
  obtain ⟨rfl,rfl⟩:=H
  go_enter Try.func54,Try.ntmps54
  go_wp2_with (first|((with_reducible refine gate_callee (f:=87) rfl ?_);refine goesL_ (some 8) rfl rfl Try.func87 z14_15 rfl #[.slice A0 l0.length c0] rfl z10_2 ?_;(with_reducible refine(r02_GetNum.calls k _ _ l0 t332 t333 _ ?side1 ?side2 A2.out).mono ?_);(case side1=>exact z10_6);(case side2=>exact HC0.out);rintro e w9 ⟨rfl,hb⟩;refine ⟨_,rfl,?_⟩;replace HB:=U (below_step z10_0 hb);(try clear hb);(try clear hb2);(try clear hk);(try clear hi)))
  go_ret2
  exact ⟨z10_8,z10_0⟩
 rw [if_pos c5] at H
 have c5b0:(t333 == (l0.length:Int))=true:=beq_iff_eq.mpr c5
 have c5b1:(t333 != (l0.length:Int))=false:=bne_eq_false_iff_eq.mpr c5
 clear c5
 by_cases c6:t332 > 1048576
 ·rw [if_pos c6] at H
  have c6b0:decide (1048576<t332)=true:=dT_ c6
  clear c6
  simp only [Option.some.injEq,Prod.mk.injEq] at H
  obtain ⟨rfl,rfl⟩:=H
  go_enter Try.func54,Try.ntmps54
  go_wp2_with (first|((with_reducible refine gate_callee (f:=87) rfl ?_);refine goesL_ (some 8) rfl rfl Try.func87 z14_15 rfl #[.slice A0 l0.length c0] rfl z10_2 ?_;(with_reducible refine(r02_GetNum.calls k _ _ l0 t332 t333 _ ?side1 ?side2 A2.out).mono ?_);(case side1=>exact z10_6);(case side2=>exact HC0.out);rintro e w7 ⟨rfl,hb⟩;refine ⟨_,rfl,?_⟩;replace HB:=U (below_step z10_0 hb);(try clear hb);(try clear hb2);(try clear hk);(try clear hi)))
  go_ret2
  exact ⟨z10_8,z10_0⟩
 rw [if_neg c6] at H
 have c6b0:decide (1048576<t332)=false:=dF_ c6
 clear c6
 simp only [Option.some.injEq,Prod.mk.injEq] at H
 obtain ⟨rfl,rfl⟩:=H
 go_enter Try.func54,Try.ntmps54
 go_wp2_with (first|((with_reducible refine gate_callee (f:=87) rfl ?_);refine goesL_ (some 8) rfl rfl Try.func87 z14_15 rfl #[.slice A0 l0.length c0] rfl z10_2 ?_;(with_reducible refine(r02_GetNum.calls k _ _ l0 t332 t333 _ ?side1 ?side2 A2.out).mono ?_);(case side1=>exact z10_6);(case side2=>exact HC0.out);rintro e w8 ⟨rfl,hb⟩;refine ⟨_,rfl,?_⟩;replace HB:=U (below_step z10_0 hb);(try clear hb);(try clear hb2);(try clear hk);(try clear hi)))
 go_ret2
 exact ⟨z10_8,z10_0⟩
def r03_Read.l0:Nat->List Int->List (List Int)->Int->List Int->Int->Option (List Int×Int)
 | 0,_,_,_,_,_=>none
 | k+1,x0,x4,x5,x6,x7=>if x7<(x4.length:Int) then(if 0<=x7 then((r02_GetNum.f k (rd_L10 x4 x7)).bind λbt342=>(if bt342.2=0 then(some (([]:List Int),0)) else(if bt342.1 > 1048576 then(some (([]:List Int),0)) else(if x6.length<17592186044416 then(r03_Read.l0 k x0 x4 x5 (x6++[wrap64 (bt342.1)]) (wrap64 (x7+1))) else(none))))) else(none)) else(if x5=0 then(some (([]:List Int),0)) else((r03_Put.f k x6).bind λt347=>(if 0<=x5 then(if x5<=(x0.length:Int) then((r02_Bytes.f k t347 (x0.take (x5:Int).toNat)).bind λt351=>(if t351=true then(some (x6,x5)) else(some (([]:List Int),0)))) else(none)) else(none))))
def r03_Read.f (k:Nat) (l0:List Int):Option (List Int×Int):=(r02_Unpack.f k l0 5).bind λbt334=>(r03_Read.l0 k l0 bt334.1 bt334.2 (([]:List Int)) 0)
def r03_Read.T10:Bool×List (List Nat×List Nat):=(true,[([],[]),([0],[0]),([1],[1]),([2],[2]),([3,2,2],[2,3]),([2],[2]),([2],[2]),([5,6,2],[2,5,6]),([4,7,4,2],[2,4,7]),([8,2],[2,8]),([2,9],[2,9])])
def r03_Read.B10:List Nat:=[0,1,3,7,15,7,7,103,255,511,1023]
theorem r03_Read.tab10:rtab .any (opsOf Try.f55 10)=r03_Read.T10:=by kernel_rfl
theorem r03_Read.bits10:waitsOk r03_Read.T10.2 r03_Read.B10=true:=by kernel_rfl
theorem r03_Read.calls (k:Nat) (A0:Option Addr) (c0:Nat) (l0:List Int) (r1:List Int) (r2:Int) (w:World) (hr0:Kd.C (Kd.int .u8) w A0 l0.length l0) (hc0:l0.length<=c0) (h:r03_Read.f k l0=some (r1,r2)) :
  Calls Try.prog 55 #[.slice A0 l0.length c0] w λe w'=>∃ v0_:Value,e = .returned (.tuple #[v0_,.int .i64 r2])/\Kd.R (Kd.int .i64) 3 w' w.heap.size (λ_=>True) v0_ r1/\Below w.heap.size w w':=by
 have HR0:=Aside0.mk hr0
 have HC0:=Aside0.mk hc0
 clear hr0 hc0
 have HB:=U (Below.refl w.heap.size w)
 have H:((r02_Unpack.f k l0 5).bind λbt334=>(r03_Read.l0 k l0 bt334.1 bt334.2 (([]:List Int)) 0))=some (r1,r2):=h
 clear h
 replace H:=oB_ H
 obtain ⟨⟨t334,t335⟩,A20,H⟩:=H
 replace H:(r03_Read.l0 k l0 t334 t335 (([]:List Int)) 0)=some (r1,r2):=H
 have A2:=Aside0.mk A20
 clear A20
 obtain ⟨y338,hy338⟩:∃ y_:List Int,y_=(([]:List Int)):=⟨_,rfl⟩
 replace H:(r03_Read.l0 k l0 t334 t335 y338 0)=some (r1,r2):=by first|(rw [hy338];with_reducible exact H)|(have H2_:=(Option.bind_some _ _).symm.trans H;rw [hy338];with_reducible exact H2_)|(have H2_:=(Option.bind_some _ _).symm.trans H;with_reducible exact H2_)|with_reducible exact H|(rw [hy338];exact H)|exact H
 have Ny338:=Aside0.mk hy338
 clear hy338
 have H':=Aside0.mk H
 clear H
 go_enter Try.func55,Try.ntmps55
 go_wp2_with (first|((with_reducible refine gate_callee (f:=53) rfl ?_);refine goesL_ (some 12) rfl rfl Try.func53 z14_15 rfl #[.slice A0 l0.length c0,.int .i64 5] rfl z10_2 ?_;(with_reducible refine(r02_Unpack.calls k _ _ l0 5 t334 t335 _ ?side1 ?side2 A2.out).mono ?_);(case side1=>exact z10_6);(case side2=>exact HC0.out);rintro e w3 ⟨v336,rfl,ho0,hb⟩;refine ⟨_,rfl,?_⟩;have HO337:=U (Kd.S_lower ho0 (below_size z10_0));replace HB:=U (below_step z10_0 hb);(try clear hb);(try clear hb2);(try clear hk);(try clear hi);(try clear ho0))|((with_reducible refine gate_dst (N:=15) rfl ?_);refine Kd.R_lit (Kd.int .i64) _ 3 ?hg (N:=15) ?hd (xs:=([]:List Int)) (inner:=[]) (ok:=λ_=>True) (okp:=λ_=>True) ?hr ?hp (λ_ hk=>hk) trivial (Below.refl _ _) (Nat.le_refl _) (by simp) ?_;(case hd=>rfl);(case hg=>rfl);(case hr=>first|(go_simp;done)|(go_simp;rfl));(case hp=>exact(Reps.none _ _));intro v339 w4 ho5 hb hg_ hnew_;clear hg_ hnew_;(first|rw [<-Ny338.out] at ho5|(simp only [Int.reduceToNat] at ho5;rw [<-Ny338.out] at ho5));replace HO337:=U (Kd.S_below (by(with_reducible repeat(first|apply Kd.S_alloc|apply Kd.S_drewN|apply Kd.S_drew));exact HO337.out) hb);have HO340:=U (Kd.R_lower ho5 (below_size z10_0));replace HB:=U (below_step z10_0 hb);clear hb ho5))
 go_loopg [6,7] k (λkq v6 v7 w'=>∃ (x6_1:List Int) (x7_1:Int),v7 = .int .i64 x7_1/\Aside0 (r03_Read.l0 kq l0 t334 t335 x6_1 x7_1=some (r1,r2))/\Aside0 (kq<=k)/\Aside0 (Kd.S (Kd.slice 5 (Kd.int .u8)) 22 w' w.heap.size (λ_=>True) v336 t334)/\Aside0 (Kd.R (Kd.int .i64) 3 w' w.heap.size (λ_=>True) v6 x6_1)/\Aside0 (Below w.heap.size w w'))
 case atStart=>exact ⟨(y338),(0),(by first|rfl|(simp;done)|(simp [*];done)),H',⟨Nat.le_refl _⟩,⟨(by(with_reducible repeat(first|apply Kd.S_alloc|apply Kd.S_drewN|apply Kd.S_drew));exact HO337.out)⟩,⟨(by(with_reducible repeat(first|apply Kd.R_alloc|apply Kd.R_drewN|apply Kd.R_drew));exact HO340.out)⟩,⟨z10_0⟩⟩
 case round =>
 clear H'
 try clear p2
 try clear c5
 obtain ⟨x6_1,x7_1,rfl,HA,HK1,HO_4,HO_6,HB⟩:=hrel
 cases gk with
 | zero=>exact absurd HA.out (by simp [r03_Read.l0])
 | succ k1 =>
 have H:=HA.out
 clear HA
 simp only [r03_Read.l0] at H
 by_cases c6:x7_1<(t334.length:Int)
 ·rw [if_pos c6] at H
  have c6b0:decide (x7_1<(t334.length:Int))=true:=dT_ c6
  clear c6
  by_cases c7:0<=x7_1
  rotate_left
  ·rw [if_neg c7] at H
   exact absurd H (by simp)
  rw [if_pos c7] at H
  have c7b0:decide (0<=x7_1)=true:=dT_ c7
  clear c7
  replace H:=oB_ H
  obtain ⟨⟨t342,t343⟩,A80,H⟩:=H
  replace H:(if t343=0 then(some (([]:List Int),0)) else(if t342 > 1048576 then(some (([]:List Int),0)) else(if x6_1.length<17592186044416 then(r03_Read.l0 k1 l0 t334 t335 (x6_1++[wrap64 (t342)]) (wrap64 (x7_1+1))) else(none))))=some (r1,r2):=H
  have A8:=Aside0.mk A80
  clear A80
  by_cases c9:t343=0
  ·rw [if_pos c9] at H
   have c9b0:(t343 == 0)=true:=beq_iff_eq.mpr c9
   have c9b1:(t343 != 0)=false:=bne_eq_false_iff_eq.mpr c9
   clear c9
   simp only [Option.some.injEq,Prod.mk.injEq] at H
   obtain ⟨rfl,rfl⟩:=H
   obtain ⟨Ao10,co10,eo10⟩:=Kd.S_slice HO_4.out
   subst eo10
   have p341:0<=(x7_1:Int):=oD_ z10_1
   have q341:x7_1<(t334.length:Int):=oD_ z10_1
   obtain ⟨ad341,A341_0,c341_0,e341,hx341_0,hl341_0,hi341_0⟩:=at_L10 (Kd.S_reads' HO_4.out).2.2 x7_1 p341 q341
   cases e341
   obtain ⟨ce341,hce341,hMe341,hcc341⟩:=Kd.S_get HO_4.out [] x7_1 p341 z15_14
   obtain ⟨ve341_0,rfl,ge341_0⟩:=hMe341
   have hv341_0:=hcc341 0 _ rfl
   rw [Nat.add_zero,show((Kd.slice 5 (Kd.int .u8))).sz=1 from rfl,Nat.mul_one] at hv341_0
   replace hv341_0:=sI_ (hv341_0.symm.trans hx341_0)
   rw [hv341_0] at ge341_0
   have HL341_0:=U (show Kd.R (Kd.int .u8) 5 _ _ _ _ (rd_L10 t334 x7_1) from ge341_0)
   clear hv341_0 ge341_0
   clear hcc341 hce341
   have HR341_0:=Aside0.mk hi341_0
   have HC341_0:=Aside0.mk hl341_0
   clear hi341_0 hl341_0
   replace p341:=eq_true p341
   replace q341:=eq_true q341
   go_wp2_with (first|((with_reducible refine gate_callee (f:=87) rfl ?_);refine goesL_ (some 27) rfl rfl Try.func87 z14_15 rfl #[.slice A341_0 (rd_L10 t334 x7_1).length c341_0] rfl z10_2 ?_;(with_reducible refine(r02_GetNum.calls k1 _ _ (rd_L10 t334 x7_1) t342 t343 _ ?side1 ?side2 A8.out).mono ?_);(case side1=>exact z15_13);(case side2=>exact HC341_0.out);rintro e w11 ⟨rfl,hb⟩;refine ⟨_,rfl,?_⟩;replace HO_4:=U (Kd.S_below z15_8 hb);replace HO_6:=U (Kd.R_below z15_4 hb);replace HL341_0:=U (Kd.R_below z15_11 hb);replace HR341_0:=U (Kd.C_below z15_3 hb);replace HB:=U (below_step z10_0 hb);(try clear hb);(try clear hb2);(try clear hk);(try clear hi)))
   go_ret2
   exact ⟨_,z10_8,z14_8,z10_0⟩
  rw [if_neg c9] at H
  have c9b0:(t343 == 0)=false:=beq_eq_false_iff_ne.mpr c9
  have c9b1:(t343 != 0)=true:=bne_iff_ne.mpr c9
  by_cases c12:t342 > 1048576
  ·rw [if_pos c12] at H
   have c12b0:decide (1048576<t342)=true:=dT_ c12
   clear c12
   simp only [Option.some.injEq,Prod.mk.injEq] at H
   obtain ⟨rfl,rfl⟩:=H
   obtain ⟨Ao13,co13,eo13⟩:=Kd.S_slice HO_4.out
   subst eo13
   have p341:0<=(x7_1:Int):=oD_ z10_1
   have q341:x7_1<(t334.length:Int):=oD_ z10_1
   obtain ⟨ad341,A341_0,c341_0,e341,hx341_0,hl341_0,hi341_0⟩:=at_L10 (Kd.S_reads' HO_4.out).2.2 x7_1 p341 q341
   cases e341
   obtain ⟨ce341,hce341,hMe341,hcc341⟩:=Kd.S_get HO_4.out [] x7_1 p341 z15_14
   obtain ⟨ve341_0,rfl,ge341_0⟩:=hMe341
   have hv341_0:=hcc341 0 _ rfl
   rw [Nat.add_zero,show((Kd.slice 5 (Kd.int .u8))).sz=1 from rfl,Nat.mul_one] at hv341_0
   replace hv341_0:=sI_ (hv341_0.symm.trans hx341_0)
   rw [hv341_0] at ge341_0
   have HL341_0:=U (show Kd.R (Kd.int .u8) 5 _ _ _ _ (rd_L10 t334 x7_1) from ge341_0)
   clear hv341_0 ge341_0
   clear hcc341 hce341
   have HR341_0:=Aside0.mk hi341_0
   have HC341_0:=Aside0.mk hl341_0
   clear hi341_0 hl341_0
   replace p341:=eq_true p341
   replace q341:=eq_true q341
   go_wp2_with (first|((with_reducible refine gate_callee (f:=87) rfl ?_);refine goesL_ (some 27) rfl rfl Try.func87 z14_15 rfl #[.slice A341_0 (rd_L10 t334 x7_1).length c341_0] rfl z10_2 ?_;(with_reducible refine(r02_GetNum.calls k1 _ _ (rd_L10 t334 x7_1) t342 t343 _ ?side1 ?side2 A8.out).mono ?_);(case side1=>exact z15_13);(case side2=>exact HC341_0.out);rintro e w14 ⟨rfl,hb⟩;refine ⟨_,rfl,?_⟩;replace HO_4:=U (Kd.S_below z15_8 hb);replace HO_6:=U (Kd.R_below z15_4 hb);replace HL341_0:=U (Kd.R_below z15_11 hb);replace HR341_0:=U (Kd.C_below z15_3 hb);replace HB:=U (below_step z10_0 hb);(try clear hb);(try clear hb2);(try clear hk);(try clear hi)))
   go_ret2
   exact ⟨_,z10_8,z14_8,z10_0⟩
  rw [if_neg c12] at H
  have c12b0:decide (1048576<t342)=false:=dF_ c12
  clear c12
  by_cases c15:x6_1.length<17592186044416
  rotate_left
  ·rw [if_neg c15] at H
   exact absurd H (by simp)
  rw [if_pos c15] at H
  have LMc15:=Aside0.mk c15
  clear c15
  obtain ⟨y344,hy344⟩:∃ y_:List Int,y_=(x6_1++[wrap64 (t342)]):=⟨_,rfl⟩
  replace H:(r03_Read.l0 k1 l0 t334 t335 y344 (wrap64 (x7_1+1)))=some (r1,r2):=by first|(rw [hy344];with_reducible exact H)|(have H2_:=(Option.bind_some _ _).symm.trans H;rw [hy344];with_reducible exact H2_)|(have H2_:=(Option.bind_some _ _).symm.trans H;with_reducible exact H2_)|with_reducible exact H|(rw [hy344];exact H)|exact H
  have Ny344:=Aside0.mk hy344
  clear hy344
  have H':=Aside0.mk H
  clear H
  obtain ⟨Ao16,co16,eo16⟩:=Kd.S_slice HO_4.out
  subst eo16
  have p341:0<=(x7_1:Int):=oD_ z10_1
  have q341:x7_1<(t334.length:Int):=oD_ z10_1
  obtain ⟨ad341,A341_0,c341_0,e341,hx341_0,hl341_0,hi341_0⟩:=at_L10 (Kd.S_reads' HO_4.out).2.2 x7_1 p341 q341
  cases e341
  obtain ⟨ce341,hce341,hMe341,hcc341⟩:=Kd.S_get HO_4.out [] x7_1 p341 z15_14
  obtain ⟨ve341_0,rfl,ge341_0⟩:=hMe341
  have hv341_0:=hcc341 0 _ rfl
  rw [Nat.add_zero,show((Kd.slice 5 (Kd.int .u8))).sz=1 from rfl,Nat.mul_one] at hv341_0
  replace hv341_0:=sI_ (hv341_0.symm.trans hx341_0)
  rw [hv341_0] at ge341_0
  have HL341_0:=U (show Kd.R (Kd.int .u8) 5 _ _ _ _ (rd_L10 t334 x7_1) from ge341_0)
  clear hv341_0 ge341_0
  clear hcc341 hce341
  have HR341_0:=Aside0.mk hi341_0
  have HC341_0:=Aside0.mk hl341_0
  clear hi341_0 hl341_0
  replace p341:=eq_true p341
  replace q341:=eq_true q341
  go_wp2_with (first|((with_reducible refine gate_callee (f:=87) rfl ?_);refine goesL_ (some 27) rfl rfl Try.func87 z14_15 rfl #[.slice A341_0 (rd_L10 t334 x7_1).length c341_0] rfl z10_2 ?_;(with_reducible refine(r02_GetNum.calls k1 _ _ (rd_L10 t334 x7_1) t342 t343 _ ?side1 ?side2 A8.out).mono ?_);(case side1=>exact z15_13);(case side2=>exact HC341_0.out);rintro e w17 ⟨rfl,hb⟩;refine ⟨_,rfl,?_⟩;replace HO_4:=U (Kd.S_below z15_8 hb);replace HO_6:=U (Kd.R_below z15_4 hb);replace HL341_0:=U (Kd.R_below z15_11 hb);replace HR341_0:=U (Kd.C_below z15_3 hb);replace HB:=U (below_step z10_0 hb);(try clear hb);(try clear hb2);(try clear hk);(try clear hi))|((with_reducible refine gate_builtin (b:=.append) (xs:=#[.tmp 36,.tmp 39]) rfl ?_);at_builtin;refine Kd.R_append (Kd.int .i64) (w0:=w) w.heap.size rfl (.tmp 36) (.tmp 39) 27 3 (.int .i64 0) 8 rfl Try.underlying27 info3 rfl (by decide) (by omega) u6 x6_1 (wrap64 (t342)) [.int .i64 (wrap64 (t342))] (λ_=>True) (λ_=>False) rfl rfl ?aP (λ_ hk=>hk.elim) ?aF ?aO ?aB ?aS ?aL ?_;(case aP=>exact rfl);(case aB=>exact z10_0);(case aF=>exact(λ_ _=>trivial));(case aO=>exact z15_4);(case aS=>exact(below_size z10_0));(case aL=>have:=LMc15.out;omega);intro v345 w18 ho hb hg hat;rw [<-Ny344.out] at ho;replace HO_4:=U (Kd.S_over' z15_8 (Kd.R_typed z15_4) (by decide) hg);replace HL341_0:=U (Kd.R_over' z15_11 (Kd.R_typed z15_4) (by decide) hg);replace HB:=U (hb);have HO346:=U (ho);clear HO_6;clear ho hb hg hat))
  go_roundg k1
  case measure=>have:=HK1.out;omega
  case rel=>exact ⟨(y344),(wrap64 (x7_1+1)),(by first|rfl|(simp;done)|(simp [*];done)),H',⟨(by have:=HK1.out;omega)⟩,⟨z15_8⟩,⟨(by(with_reducible repeat(first|apply Kd.R_alloc|apply Kd.R_drewN|apply Kd.R_drew));exact HO346.out)⟩,⟨z10_0⟩⟩
 rw [if_neg c6] at H
 have c6b0:decide (x7_1<(t334.length:Int))=false:=dF_ c6
 clear c6
 by_cases c19:t335=0
 ·rw [if_pos c19] at H
  have c19b0:(t335 == 0)=true:=beq_iff_eq.mpr c19
  have c19b1:(t335 != 0)=false:=bne_eq_false_iff_eq.mpr c19
  clear c19
  simp only [Option.some.injEq,Prod.mk.injEq] at H
  obtain ⟨rfl,rfl⟩:=H
  obtain ⟨Ao20,co20,eo20⟩:=Kd.S_slice HO_4.out
  subst eo20
  try go_wp2
  have n0_:=U (Kd.S_drew HO_4.out)
  have n1_:=U (Kd.R_drew HO_6.out)
  have n2_:=U (below_drew1 HB.out)
  clear HO_4
  clear HO_6
  clear HB
  have HO_4:=n0_
  have HO_6:=n1_
  have HB:=n2_
  clear n0_ n1_ n2_
  refine start_ (n:=11) (S:=λw'=>True) (ds:=[]) #[J,J,J,J,J,J,J,J,J,J,J] z14_15 rfl rfl trivial (λhHeld=>?_);refine with_tabW r03_Read.tab10 r03_Read.bits10 (λHT_ HW_=>?_)
  generalize wr.drew=w21 at HO_4 HO_6 HB hHeld ⊢
  refine pure_ (i:=0) (N:=some 41) (v:=?_) (a':=?_) #[Y,J,J,J,J,J,J,J,J,J,J] rfl rfl (any_of HT_.out z14_15) (λ_ _ _ h=>h) (Or.inl ⟨(by rfl),?_⟩) ?_ ?_
  rotate_left
  ·intro w'
   go_simp
   with_reducible rfl
  rotate_left
  ·exact z14_1
  refine pure_ (i:=1) (N:=some 42) (v:=?_) (a':=?_) #[Y,Y,J,J,J,J,J,J,J,J,J] rfl rfl (any_of HT_.out z14_15) (λ_ _ _ h=>h) (Or.inl ⟨(by rfl),?_⟩) ?_ ?_
  rotate_left
  ·intro w'
   go_simp
   with_reducible rfl
  rotate_left
  ·exact z14_1
  refine pure_ (i:=2) (N:=some 43) (v:=?_) (a':=?_) #[Y,Y,Y,J,J,J,J,J,J,J,J] rfl rfl (any_of HT_.out z14_15) (λ_ _ _ h=>h) (Or.inl ⟨(by rfl),?_⟩) ?_ ?_
  rotate_left
  ·intro w'
   go_simp
   with_reducible rfl
  rotate_left
  ·exact z14_1
  refine pure_ (i:=3) (N:=some 44) (v:=undef) (a':=?_) #[Y,Y,Y,Y,J,J,J,J,J,J,J] rfl rfl (any_of HT_.out z14_15) (λ_ _ _ h=>h) (Or.inr ⟨(by rfl),rfl⟩) ?_ ?_
  rotate_left
  ·exact z14_1
  refine pure_ (i:=4) (N:=some 45) (v:=undef) (a':=?_) #[Y,Y,Y,Y,Y,J,J,J,J,J,J] rfl rfl (any_of HT_.out z14_15) (λ_ _ _ h=>h) (Or.inr ⟨(by rfl),rfl⟩) ?_ ?_
  rotate_left
  ·exact z14_1
  refine pure_ (i:=5) (N:=some 46) (v:=undef) (a':=?_) #[Y,Y,Y,Y,Y,Y,J,J,J,J,J] rfl rfl (any_of HT_.out z14_15) (λ_ _ _ h=>h) (Or.inr ⟨(by rfl),rfl⟩) ?_ ?_
  rotate_left
  ·exact z14_1
  refine pure_ (i:=6) (N:=some 47) (v:=undef) (a':=?_) #[Y,Y,Y,Y,Y,Y,Y,J,J,J,J] rfl rfl (any_of HT_.out z14_15) (λ_ _ _ h=>h) (Or.inr ⟨(by rfl),rfl⟩) ?_ ?_
  rotate_left
  ·exact z14_1
  refine pure_ (i:=7) (N:=some 48) (v:=undef) (a':=?_) #[Y,Y,Y,Y,Y,Y,Y,Y,J,J,J] rfl rfl (any_of HT_.out z14_15) (λ_ _ _ h=>h) (Or.inr ⟨(by rfl),rfl⟩) ?_ ?_
  rotate_left
  ·exact z14_1
  refine pure_ (i:=8) (N:=some 49) (v:=undef) (a':=?_) #[Y,Y,Y,Y,Y,Y,Y,Y,Y,J,J] rfl rfl (any_of HT_.out z14_15) (λ_ _ _ h=>h) (Or.inr ⟨(by rfl),rfl⟩) ?_ ?_
  rotate_left
  ·exact z14_1
  refine pure_ (i:=9) (N:=some 50) (v:=undef) (a':=?_) #[Y,Y,Y,Y,Y,Y,Y,Y,Y,Y,J] rfl rfl (any_of HT_.out z14_15) (λ_ _ _ h=>h) (Or.inr ⟨(by rfl),rfl⟩) ?_ ?_
  rotate_left
  ·exact z14_1
  refine pure_ (i:=10) (N:=some 51) (v:=?_) (a':=?_) #[Y,Y,Y,Y,Y,Y,Y,Y,Y,Y,Y] rfl rfl (any_of HT_.out z14_15) (λ_ _ _ h=>h) (Or.inl ⟨(by rfl),?_⟩) ?_ ?_
  rotate_left
  ·intro w'
   go_simp
   with_reducible rfl
  rotate_left
  ·exact z14_1
  refine done_ (done_of HT_.out z14_15) ?_
  try go_wp2
  go_ret2
  exact ⟨_,z10_8,z14_8,z10_0⟩
 rw [if_neg c19] at H
 have c19b0:(t335 == 0)=false:=beq_eq_false_iff_ne.mpr c19
 have c19b1:(t335 != 0)=true:=bne_iff_ne.mpr c19
 replace H:=oB_ H
 obtain ⟨t347,A220,H⟩:=H
 replace H:(if 0<=t335 then(if t335<=(l0.length:Int) then((r02_Bytes.f k1 t347 (l0.take (t335:Int).toNat)).bind λt351=>(if t351=true then(some (x6_1,t335)) else(some (([]:List Int),0)))) else(none)) else(none))=some (r1,r2):=H
 have A22:=Aside0.mk A220
 clear A220
 by_cases c23:0<=t335
 rotate_left
 ·rw [if_neg c23] at H
  exact absurd H (by simp)
 rw [if_pos c23] at H
 have c23b0:=eq_true c23
 have c23b1:decide (0<=t335)=true:=dT_ c23
 clear c23
 by_cases c24:t335<=(l0.length:Int)
 rotate_left
 ·rw [if_neg c24] at H
  exact absurd H (by simp)
 rw [if_pos c24] at H
 have c24b0:=eq_true c24
 have c24b1:decide (t335<=(l0.length:Int))=true:=dT_ c24
 clear c24
 replace H:=oB_ H
 obtain ⟨t351,A250,H⟩:=H
 replace H:(if t351=true then(some (x6_1,t335)) else(some (([]:List Int),0)))=some (r1,r2):=H
 have A25:=Aside0.mk A250
 clear A250
 by_cases c26:t351=true
 ·subst c26
  have H1:(some (x6_1,t335))=some (r1,r2):=by rw [if_pos rfl] at H;exact H
  clear H
  have H:=H1
  clear H1
  simp only [Option.some.injEq,Prod.mk.injEq] at H
  obtain ⟨rfl,rfl⟩:=H
  obtain ⟨Ao27,co27,eo27⟩:=Kd.S_slice HO_4.out
  subst eo27
  try go_wp2
  have n0_:=U (Kd.S_drew HO_4.out)
  have n1_:=U (Kd.R_drew HO_6.out)
  have n2_:=U (below_drew1 HB.out)
  clear HO_4
  clear HO_6
  clear HB
  have HO_4:=n0_
  have HO_6:=n1_
  have HB:=n2_
  clear n0_ n1_ n2_
  obtain ⟨i029,hi029,_,hsz29,_⟩:=info_parts info5
  obtain ⟨hcut29,hA29,hC29⟩:=print_take_of (P:=Try.prog) (Value.int .u8) 0 22 5 .i64 Try.underlying22 hi029 hsz29 A0 c0 l0 t335 (oD_ z10_1) (oD_ z10_1) HC0.out
  have HR350:=U (Kd.C_of_reads (h1:=λ_=>rfl) (hA29 _ (Kd.reads_of_C HR0.out)))
  have HC350:=Aside0.mk hC29
  clear hA29 hC29 hi029 hsz29
  obtain ⟨Ao30,co30,eo30⟩:=Kd.R_slice HO_6.out
  (first|subst eo30|(injection eo30 with f1_ f2_ f3_;have f4_:=f1_.symm;have f5_:=f3_.symm;clear f1_ f2_ f3_;subst f4_;subst f5_))
  refine start_ (n:=11) (S:=λw'=>True) (ds:=[]) #[J,J,J,J,J,J,J,J,J,J,J] z14_15 rfl rfl trivial (λhHeld=>?_);refine with_tabW r03_Read.tab10 r03_Read.bits10 (λHT_ HW_=>?_)
  generalize wr.drew=w28 at HO_4 HO_6 HB HR350 hHeld ⊢
  refine pure_ (i:=0) (N:=some 41) (v:=?_) (a':=?_) #[Y,J,J,J,J,J,J,J,J,J,J] rfl rfl (any_of HT_.out z14_15) (λ_ _ _ h=>h) (Or.inl ⟨(by rfl),?_⟩) ?_ ?_
  rotate_left
  ·intro w'
   go_simp
   with_reducible rfl
  rotate_left
  ·exact z14_1
  refine pure_ (i:=1) (N:=some 42) (v:=?_) (a':=?_) #[Y,Y,J,J,J,J,J,J,J,J,J] rfl rfl (any_of HT_.out z14_15) (λ_ _ _ h=>h) (Or.inl ⟨(by rfl),?_⟩) ?_ ?_
  rotate_left
  ·intro w'
   go_simp
   with_reducible rfl
  rotate_left
  ·exact z14_1
  refine pure_ (i:=2) (N:=some 43) (v:=?_) (a':=?_) #[Y,Y,Y,J,J,J,J,J,J,J,J] rfl rfl (any_of HT_.out z14_15) (λ_ _ _ h=>h) (Or.inl ⟨(by rfl),?_⟩) ?_ ?_
  rotate_left
  ·intro w'
   go_simp
   with_reducible rfl
  rotate_left
  ·exact z14_1
  refine pure_ (i:=3) (N:=some 44) (v:=?_) (a':=?_) #[Y,Y,Y,Y,J,J,J,J,J,J,J] rfl rfl (any_of HT_.out z14_15) (λ_ _ _ h=>h) (Or.inl ⟨(by rfl),?_⟩) ?_ ?_
  rotate_left
  ·intro w'
   go_simp
   with_reducible rfl
  rotate_left
  ·exact z14_1
  refine pure_ (i:=5) (N:=some 46) (v:=?_) (a':=?_) #[Y,Y,Y,Y,J,Y,J,J,J,J,J] rfl rfl (any_of HT_.out z14_15) (λ_ _ _ h=>h) (Or.inl ⟨(by rfl),?_⟩) ?_ ?_
  rotate_left
  ·intro w'
   go_simp
   with_reducible rfl
  rotate_left
  ·exact z14_1
  refine pure_ (i:=6) (N:=some 47) (v:=?_) (a':=?_) #[Y,Y,Y,Y,J,Y,Y,J,J,J,J] rfl rfl (any_of HT_.out z14_15) (λ_ _ _ h=>h) (Or.inl ⟨(by rfl),?_⟩) ?_ ?_
  rotate_left
  ·intro w'
   go_simp
   with_reducible rfl
  rotate_left
  ·exact z14_1
  refine pure_ (i:=7) (N:=some 48) (v:=?_) (a':=?_) #[Y,Y,Y,Y,J,Y,Y,Y,J,J,J] rfl rfl (any_of HT_.out z14_15) (λ_ _ _ h=>h) (Or.inl ⟨(by rfl),?_⟩) ?_ ?_
  rotate_left
  ·intro w'
   go_simp
   with_reducible rfl
  rotate_left
  ·exact z14_1
  refine one_ (i:=4) (N:=some 45) #[Y,Y,Y,Y,Y,Y,Y,Y,J,J,J] rfl rfl (one_of HT_.out z14_15) (by decide) (λK hK=>?_)
  refine goes_ Try.func77 z14_15 rfl #[.slice Ao30 x6_1.length co30] (by rfl) rfl rfl z10_2 ?_
  with_reducible refine(r03_Put.calls k1 _ _ x6_1 t347 _ ?side1 ?side2 A22.out).mono ?_
  (case side1=>exact z15_17)
  (case side2=>exact(Kd.R_reads' HO_6.out).2.1)
  rintro e w31 ⟨v348,rfl,ho0,hb⟩
  refine ⟨_,rfl,?_⟩
  have n0_:=U (Kd.S_elder' z15_8 (Kd.R_base ho0) hb)
  have n1_:=U (Kd.R_below z15_4 hb)
  have n2_:=U (Kd.R_lower ho0 (below_size z10_0))
  have n3_:=U (below_step z10_0 hb)
  clear HO_4
  clear HO_6
  clear HB
  have HO_4:=n0_
  have HO_6:=n1_
  have HO349:=n2_
  have HB:=n3_
  clear n0_ n1_ n2_ n3_
  (try clear hb)
  (try clear hb2)
  (try clear hk)
  (try clear hi)
  (try clear ho0)
  obtain ⟨Ao32,co32,eo32⟩:=Kd.R_slice HO349.out
  (first|subst eo32|(injection eo32 with f1_ f2_ f3_;have f4_:=f1_.symm;have f5_:=f3_.symm;clear f1_ f2_ f3_;subst f4_;subst f5_))
  refine hK.out _ _ trivial (λhHeld=>?_)
  clear hK K
  refine norm_ (a':=?_) ?_ ?_
  rotate_left
  ·exact z14_17
  refine one_ (i:=8) (N:=some 49) #[Y,Y,Y,Y,Y,Y,Y,Y,Y,J,J] rfl rfl (one_of HT_.out z14_15) (by decide) (λK hK=>?_)
  refine goes_ Try.func23 z14_15 rfl #[.slice Ao32 t347.length co32,.slice A0 (l0.take (t335:Int).toNat).length c0] (by rfl) rfl rfl z15_10 ?_
  with_reducible refine(r02_Bytes.calls k1 _ _ t347 _ _ (l0.take (t335:Int).toNat) true _ ?side1 ?side2 ?side3 ?side4 A25.out).mono ?_
  (case side1=>exact z15_16)
  (case side2=>exact(Kd.R_reads' HO349.out).2.1)
  (case side3=>exact z15_15)
  (case side4=>exact HC350.out)
  rintro e w' ⟨rfl,⟨nd,rfl⟩⟩
  refine ⟨_,rfl,?_⟩
  refine hK.out _ _ trivial (λhHeld=>?_)
  clear hK K
  refine norm_ (a':=?_) ?_ ?_
  rotate_left
  ·exact z14_18
  refine pure_ (i:=9) (N:=some 50) (v:=?_) (a':=?_) #[Y,Y,Y,Y,Y,Y,Y,Y,Y,Y,J] rfl rfl (any_of HT_.out z14_15) (λ_ _ _ h=>h) (Or.inl ⟨(by rfl),?_⟩) ?_ ?_
  rotate_left
  ·intro w'
   go_simp
   with_reducible rfl
  rotate_left
  ·exact z14_1
  refine pure_ (i:=10) (N:=some 51) (v:=?_) (a':=?_) #[Y,Y,Y,Y,Y,Y,Y,Y,Y,Y,Y] rfl rfl (any_of HT_.out z14_15) (λ_ _ _ h=>h) (Or.inl ⟨(by rfl),?_⟩) ?_ ?_
  rotate_left
  ·intro w'
   go_simp
   with_reducible rfl
  rotate_left
  ·exact z14_1
  refine done_ (done_of HT_.out z14_15) ?_
  try go_wp2
  go_ret2
  exact ⟨_,z10_8,z15_4,z10_0⟩
 replace c26:=Bool.eq_false_iff.mpr c26
 subst c26
 have H1:(some (([]:List Int),0))=some (r1,r2):=by rw [if_neg (show ¬ (false=true) by decide)] at H;exact H
 clear H
 have H:=H1
 clear H1
 simp only [Option.some.injEq,Prod.mk.injEq] at H
 obtain ⟨rfl,rfl⟩:=H
 obtain ⟨Ao33,co33,eo33⟩:=Kd.S_slice HO_4.out
 subst eo33
 try go_wp2
 have n0_:=U (Kd.S_drew HO_4.out)
 have n1_:=U (Kd.R_drew HO_6.out)
 have n2_:=U (below_drew1 HB.out)
 clear HO_4
 clear HO_6
 clear HB
 have HO_4:=n0_
 have HO_6:=n1_
 have HB:=n2_
 clear n0_ n1_ n2_
 obtain ⟨i035,hi035,_,hsz35,_⟩:=info_parts info5
 obtain ⟨hcut35,hA35,hC35⟩:=print_take_of (P:=Try.prog) (Value.int .u8) 0 22 5 .i64 Try.underlying22 hi035 hsz35 A0 c0 l0 t335 (oD_ z10_1) (oD_ z10_1) HC0.out
 have HR350:=U (Kd.C_of_reads (h1:=λ_=>rfl) (hA35 _ (Kd.reads_of_C HR0.out)))
 have HC350:=Aside0.mk hC35
 clear hA35 hC35 hi035 hsz35
 obtain ⟨Ao36,co36,eo36⟩:=Kd.R_slice HO_6.out
 (first|subst eo36|(injection eo36 with f1_ f2_ f3_;have f4_:=f1_.symm;have f5_:=f3_.symm;clear f1_ f2_ f3_;subst f4_;subst f5_))
 refine start_ (n:=11) (S:=λw'=>True) (ds:=[]) #[J,J,J,J,J,J,J,J,J,J,J] z14_15 rfl rfl trivial (λhHeld=>?_);refine with_tabW r03_Read.tab10 r03_Read.bits10 (λHT_ HW_=>?_)
 generalize wr.drew=w34 at HO_4 HO_6 HB HR350 hHeld ⊢
 refine pure_ (i:=0) (N:=some 41) (v:=?_) (a':=?_) #[Y,J,J,J,J,J,J,J,J,J,J] rfl rfl (any_of HT_.out z14_15) (λ_ _ _ h=>h) (Or.inl ⟨(by rfl),?_⟩) ?_ ?_
 rotate_left
 ·intro w'
  go_simp
  with_reducible rfl
 rotate_left
 ·exact z14_1
 refine pure_ (i:=1) (N:=some 42) (v:=?_) (a':=?_) #[Y,Y,J,J,J,J,J,J,J,J,J] rfl rfl (any_of HT_.out z14_15) (λ_ _ _ h=>h) (Or.inl ⟨(by rfl),?_⟩) ?_ ?_
 rotate_left
 ·intro w'
  go_simp
  with_reducible rfl
 rotate_left
 ·exact z14_1
 refine pure_ (i:=2) (N:=some 43) (v:=?_) (a':=?_) #[Y,Y,Y,J,J,J,J,J,J,J,J] rfl rfl (any_of HT_.out z14_15) (λ_ _ _ h=>h) (Or.inl ⟨(by rfl),?_⟩) ?_ ?_
 rotate_left
 ·intro w'
  go_simp
  with_reducible rfl
 rotate_left
 ·exact z14_1
 refine pure_ (i:=3) (N:=some 44) (v:=?_) (a':=?_) #[Y,Y,Y,Y,J,J,J,J,J,J,J] rfl rfl (any_of HT_.out z14_15) (λ_ _ _ h=>h) (Or.inl ⟨(by rfl),?_⟩) ?_ ?_
 rotate_left
 ·intro w'
  go_simp
  with_reducible rfl
 rotate_left
 ·exact z14_1
 refine pure_ (i:=5) (N:=some 46) (v:=?_) (a':=?_) #[Y,Y,Y,Y,J,Y,J,J,J,J,J] rfl rfl (any_of HT_.out z14_15) (λ_ _ _ h=>h) (Or.inl ⟨(by rfl),?_⟩) ?_ ?_
 rotate_left
 ·intro w'
  go_simp
  with_reducible rfl
 rotate_left
 ·exact z14_1
 refine pure_ (i:=6) (N:=some 47) (v:=?_) (a':=?_) #[Y,Y,Y,Y,J,Y,Y,J,J,J,J] rfl rfl (any_of HT_.out z14_15) (λ_ _ _ h=>h) (Or.inl ⟨(by rfl),?_⟩) ?_ ?_
 rotate_left
 ·intro w'
  go_simp
  with_reducible rfl
 rotate_left
 ·exact z14_1
 refine pure_ (i:=7) (N:=some 48) (v:=?_) (a':=?_) #[Y,Y,Y,Y,J,Y,Y,Y,J,J,J] rfl rfl (any_of HT_.out z14_15) (λ_ _ _ h=>h) (Or.inl ⟨(by rfl),?_⟩) ?_ ?_
 rotate_left
 ·intro w'
  go_simp
  with_reducible rfl
 rotate_left
 ·exact z14_1
 refine one_ (i:=4) (N:=some 45) #[Y,Y,Y,Y,Y,Y,Y,Y,J,J,J] rfl rfl (one_of HT_.out z14_15) (by decide) (λK hK=>?_)
 refine goes_ Try.func77 z14_15 rfl #[.slice Ao36 x6_1.length co36] (by rfl) rfl rfl z10_2 ?_
 with_reducible refine(r03_Put.calls k1 _ _ x6_1 t347 _ ?side1 ?side2 A22.out).mono ?_
 (case side1=>exact z15_17)
 (case side2=>exact(Kd.R_reads' HO_6.out).2.1)
 rintro e w37 ⟨v348,rfl,ho0,hb⟩
 refine ⟨_,rfl,?_⟩
 have n0_:=U (Kd.S_elder' z15_8 (Kd.R_base ho0) hb)
 have n1_:=U (Kd.R_below z15_4 hb)
 have n2_:=U (Kd.R_lower ho0 (below_size z10_0))
 have n3_:=U (below_step z10_0 hb)
 clear HO_4
 clear HO_6
 clear HB
 have HO_4:=n0_
 have HO_6:=n1_
 have HO349:=n2_
 have HB:=n3_
 clear n0_ n1_ n2_ n3_
 (try clear hb)
 (try clear hb2)
 (try clear hk)
 (try clear hi)
 (try clear ho0)
 obtain ⟨Ao38,co38,eo38⟩:=Kd.R_slice HO349.out
 (first|subst eo38|(injection eo38 with f1_ f2_ f3_;have f4_:=f1_.symm;have f5_:=f3_.symm;clear f1_ f2_ f3_;subst f4_;subst f5_))
 refine hK.out _ _ trivial (λhHeld=>?_)
 clear hK K
 refine norm_ (a':=?_) ?_ ?_
 rotate_left
 ·exact z14_17
 refine one_ (i:=8) (N:=some 49) #[Y,Y,Y,Y,Y,Y,Y,Y,Y,J,J] rfl rfl (one_of HT_.out z14_15) (by decide) (λK hK=>?_)
 refine goes_ Try.func23 z14_15 rfl #[.slice Ao38 t347.length co38,.slice A0 (l0.take (t335:Int).toNat).length c0] (by rfl) rfl rfl z15_10 ?_
 with_reducible refine(r02_Bytes.calls k1 _ _ t347 _ _ (l0.take (t335:Int).toNat) false _ ?side1 ?side2 ?side3 ?side4 A25.out).mono ?_
 (case side1=>exact z15_16)
 (case side2=>exact(Kd.R_reads' HO349.out).2.1)
 (case side3=>exact z15_15)
 (case side4=>exact HC350.out)
 rintro e w' ⟨rfl,⟨nd,rfl⟩⟩
 refine ⟨_,rfl,?_⟩
 refine hK.out _ _ trivial (λhHeld=>?_)
 clear hK K
 refine norm_ (a':=?_) ?_ ?_
 rotate_left
 ·exact z14_18
 refine pure_ (i:=9) (N:=some 50) (v:=?_) (a':=?_) #[Y,Y,Y,Y,Y,Y,Y,Y,Y,Y,J] rfl rfl (any_of HT_.out z14_15) (λ_ _ _ h=>h) (Or.inl ⟨(by rfl),?_⟩) ?_ ?_
 rotate_left
 ·intro w'
  go_simp
  with_reducible rfl
 rotate_left
 ·exact z14_1
 refine pure_ (i:=10) (N:=some 51) (v:=?_) (a':=?_) #[Y,Y,Y,Y,Y,Y,Y,Y,Y,Y,Y] rfl rfl (any_of HT_.out z14_15) (λ_ _ _ h=>h) (Or.inl ⟨(by rfl),?_⟩) ?_ ?_
 rotate_left
 ·intro w'
  go_simp
  with_reducible rfl
 rotate_left
 ·exact z14_1
 refine done_ (done_of HT_.out z14_15) ?_
 try go_wp2
 go_ret2
 exact ⟨_,z10_8,z14_8,z10_0⟩
end Go.Proofs.Ytgocnchjpecafaa.PEv
