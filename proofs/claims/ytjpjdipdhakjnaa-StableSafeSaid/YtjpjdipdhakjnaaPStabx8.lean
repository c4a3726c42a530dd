/- a part -/
import Derived.Test.YtjpjdipdhakjnaaPStabx3
namespace Go.Proofs.Ytjpjdipdhakjnaa.PStab
open Go.RowKit Go.Proofs.YtjpjdipdhakjnaaW.PrintWords Go.Proofs.YtjpjdipdhakjnaaW.PrintLast Go.Proofs.YtjpjdipdhakjnaaW.PrintMore
attribute [local go_sem] max2_int min2_int max_two min_two max_three min_three max_four min_four
set_option linter.unusedVariables false
set_option linter.unusedSimpArgs false
set_option maxHeartbeats 8000000
set_option maxRecDepth 100000
theorem z8_1 {P:Prop} (h:P:=by(with_reducible repeat(first|apply Kd.R_alloc|apply Kd.R_drewN|apply Kd.R_drew));exact HO_7.out):P:=h
def r03_Set.l0:Nat->List Int->Int->Int->List Int->Int->Option (List Int)
 | 0,_,_,_,_,_=>none
 | k+1,x0,x1,x2,x7,x8=>if x8<=5 then(if x8=x1 then(if x7.length<17592186044416 then(r03_Set.l0 k x0 x1 x2 (x7++[x2]) (wrap64 (x8+1))) else(none)) else((r03_Get.f k x0 x8).bind λt311=>(if x7.length<17592186044416 then(r03_Set.l0 k x0 x1 x2 (x7++[t311]) (wrap64 (x8+1))) else(none)))) else((r03_Plain.f k x7).bind λt315=>(some t315))
def r03_Set.f (k:Nat) (l0:List Int) (a1:Int) (a2:Int):Option (List Int):=r03_Set.l0 k l0 a1 a2 (([]:List Int)) 1
theorem r03_Set.calls (k:Nat) (A0:Option Addr) (c0:Nat) (l0:List Int) (a1:Int) (a2:Int) (r:List Int) (w:World) (hr0:Kd.C (Kd.int .i64) w A0 l0.length l0) (hc0:l0.length<=c0) (h:r03_Set.f k l0 a1 a2=some r) :
  Calls Try.prog 32 #[.slice A0 l0.length c0,.int .i64 a1,.int .i64 a2] w λe w'=>∃ v0_:Value,e = .returned (v0_)/\Kd.R (Kd.int .i64) 3 w' w.heap.size (λ_=>True) v0_ r/\Below w.heap.size w w':=by
 have HR0:=Aside0.mk hr0
 have HC0:=Aside0.mk hc0
 clear hr0 hc0
 have HB:=U (Below.refl w.heap.size w)
 have H:(r03_Set.l0 k l0 a1 a2 (([]:List Int)) 1)=some r:=h
 clear h
 obtain ⟨y305,hy305⟩:∃ y_:List Int,y_=(([]:List Int)):=⟨_,rfl⟩
 replace H:(r03_Set.l0 k l0 a1 a2 y305 1)=some r:=by first|(rw [hy305];with_reducible exact H)|(have H2_:=(Option.bind_some _ _).symm.trans H;rw [hy305];with_reducible exact H2_)|(have H2_:=(Option.bind_some _ _).symm.trans H;with_reducible exact H2_)|with_reducible exact H|(rw [hy305];exact H)|exact H
 have Ny305:=Aside0.mk hy305
 clear hy305
 have H':=Aside0.mk H
 clear H
 go_enter Try.func32,Try.ntmps32
 go_wp2_with (first|((with_reducible refine gate_dst (N:=9) rfl ?_);refine Kd.R_lit (Kd.int .i64) _ 3 ?hg (N:=9) ?hd (xs:=([]:List Int)) (inner:=[]) (ok:=λ_=>True) (okp:=λ_=>True) ?hr ?hp (λ_ hk=>hk) trivial (Below.refl _ _) (Nat.le_refl _) (by simp) ?_;(case hd=>rfl);(case hg=>rfl);(case hr=>first|(go_simp;done)|(go_simp;rfl));(case hp=>exact(Reps.none _ _));intro v306 w4 ho5 hb hg_ hnew_;clear hg_ hnew_;(first|rw [<-Ny305.out] at ho5|(simp only [Int.reduceToNat] at ho5;rw [<-Ny305.out] at ho5));have HO307:=U (Kd.R_lower ho5 (below_size z1_1));replace HB:=U (below_step z1_1 hb);clear hb ho5))
 go_loopg [7,8] k (λkq v7 v8 w'=>∃ (x7_1:List Int) (x8_1:Int),v8 = .int .i64 x8_1/\Aside0 (r03_Set.l0 kq l0 a1 a2 x7_1 x8_1=some r)/\Aside0 (kq<=k)/\Aside0 (Kd.R (Kd.int .i64) 3 w' w.heap.size (λ_=>True) v7 x7_1)/\Aside0 (Below w.heap.size w w'))
 case atStart=>exact ⟨(y305),(1),(by first|rfl|(simp;done)|(simp [*];done)),H',⟨Nat.le_refl _⟩,⟨(by(with_reducible repeat(first|apply Kd.R_alloc|apply Kd.R_drewN|apply Kd.R_drew));exact HO307.out)⟩,⟨z1_1⟩⟩
 case round =>
 clear H'
 try clear p2
 try clear c3
 obtain ⟨x7_1,x8_1,rfl,HA,HK1,HO_7,HB⟩:=hrel
 cases gk with
 | zero=>exact absurd HA.out (by simp [r03_Set.l0])
 | succ k1 =>
 have H:=HA.out
 clear HA
 simp only [r03_Set.l0] at H
 by_cases c6:x8_1<=5
 rotate_left
 ·rw [if_neg c6] at H
  have c6b0:decide (x8_1<=5)=false:=dF_ c6
  clear c6
  replace H:=oB_ H
  obtain ⟨t315,A130,H⟩:=H
  replace H:(some t315)=some r:=H
  have A13:=Aside0.mk A130
  clear A130
  obtain rfl:=sI_ H
  obtain ⟨Ao14,co14,eo14⟩:=Kd.R_slice HO_7.out
  subst eo14
  go_wp2_with (first|((with_reducible refine gate_callee (f:=28) rfl ?_);refine goesL_ (some 28) rfl rfl Try.func28 (by kernel_rfl) rfl #[.slice Ao14 x7_1.length co14] rfl z2_2 ?_;(with_reducible refine(r03_Plain.calls k1 _ _ x7_1 t315 _ ?side1 ?side2 A13.out).mono ?_);(case side1=>repeat(first|exact(Kd.R_reads' HO_7.out).2.2|(with_reducible refine Kd.C_alloc ?_ _)|(with_reducible refine Kd.C_drewN ?_ _)|(with_reducible refine Kd.C_drew ?_)));(case side2=>exact(Kd.R_reads' HO_7.out).2.1);rintro e w15 ⟨v316,rfl,ho0,hb⟩;refine ⟨_,rfl,?_⟩;have HO317:=U (Kd.R_lower (Kd.R_new' ho0 (Kd.R_lt z8_1)) (below_size z1_1));replace HO_7:=U (Kd.R_elder' z8_1 (Kd.R_base ho0) hb);replace HB:=U (below_step z1_1 hb);(try clear hb);(try clear hb2);(try clear hk);(try clear hi);(try clear ho0)))
  go_ret
  exact ⟨_,(by first|rfl|(simp [errW_none,errW_some]<;>rfl)|(simp [*,errW_none,errW_some]<;>rfl)),(by(with_reducible repeat(first|apply Kd.R_alloc|apply Kd.R_drewN|apply Kd.R_drew));exact Kd.R_mono HO317.out (λ_ hk=>trivial)),z1_1⟩
 rw [if_pos c6] at H
 have c6b0:decide (x8_1<=5)=true:=dT_ c6
 clear c6
 by_cases c7:x8_1=a1
 ·rw [if_pos c7] at H
  have c7b0:(x8_1 == a1)=true:=beq_iff_eq.mpr c7
  have c7b1:(x8_1 != a1)=false:=bne_eq_false_iff_eq.mpr c7
  clear c7
  by_cases c8:x7_1.length<17592186044416
  rotate_left
  ·rw [if_neg c8] at H
   exact absurd H (by simp)
  rw [if_pos c8] at H
  have LMc8:=Aside0.mk c8
  clear c8
  obtain ⟨y308,hy308⟩:∃ y_:List Int,y_=(x7_1++[a2]):=⟨_,rfl⟩
  replace H:(r03_Set.l0 k1 l0 a1 a2 y308 (wrap64 (x8_1+1)))=some r:=by first|(rw [hy308];with_reducible exact H)|(have H2_:=(Option.bind_some _ _).symm.trans H;rw [hy308];with_reducible exact H2_)|(have H2_:=(Option.bind_some _ _).symm.trans H;with_reducible exact H2_)|with_reducible exact H|(rw [hy308];exact H)|exact H
  have Ny308:=Aside0.mk hy308
  clear hy308
  have H':=Aside0.mk H
  clear H
  go_wp2_with (first|((with_reducible refine gate_builtin (b:=.append) (xs:=#[.tmp 17,.tmp 19]) rfl ?_);at_builtin;refine Kd.R_append (Kd.int .i64) (w0:=w) w.heap.size rfl (.tmp 17) (.tmp 19) 23 3 (.int .i64 0) 8 rfl Try.underlying23 info3 rfl (by decide) (by omega) u7 x7_1 a2 [.int .i64 a2] (λ_=>True) (λ_=>False) rfl rfl ?aP (λ_ hk=>hk.elim) ?aF ?aO ?aB ?aS ?aL ?_;(case aP=>exact rfl);(case aB=>exact z1_1);(case aF=>exact(λ_ _=>trivial));(case aO=>exact z8_1);(case aS=>exact(below_size z1_1));(case aL=>have:=LMc8.out;omega);intro v309 w9 ho hb hg hat;rw [<-Ny308.out] at ho;replace HB:=U (hb);have HO310:=U (ho);clear HO_7;clear ho hb hg hat))
  go_roundg k1
  case measure=>have:=HK1.out;omega
  case rel=>exact ⟨(y308),(wrap64 (x8_1+1)),(by first|rfl|(simp;done)|(simp [*];done)),H',⟨(by have:=HK1.out;omega)⟩,⟨(by(with_reducible repeat(first|apply Kd.R_alloc|apply Kd.R_drewN|apply Kd.R_drew));exact HO310.out)⟩,⟨z1_1⟩⟩
 rw [if_neg c7] at H
 have c7b0:(x8_1 == a1)=false:=beq_eq_false_iff_ne.mpr c7
 have c7b1:(x8_1 != a1)=true:=bne_iff_ne.mpr c7
 replace H:=oB_ H
 obtain ⟨t311,A100,H⟩:=H
 replace H:(if x7_1.length<17592186044416 then(r03_Set.l0 k1 l0 a1 a2 (x7_1++[t311]) (wrap64 (x8_1+1))) else(none))=some r:=H
 have A10:=Aside0.mk A100
 clear A100
 by_cases c11:x7_1.length<17592186044416
 rotate_left
 ·rw [if_neg c11] at H
  exact absurd H (by simp)
 rw [if_pos c11] at H
 have LMc11:=Aside0.mk c11
 clear c11
 obtain ⟨y312,hy312⟩:∃ y_:List Int,y_=(x7_1++[t311]):=⟨_,rfl⟩
 replace H:(r03_Set.l0 k1 l0 a1 a2 y312 (wrap64 (x8_1+1)))=some r:=by first|(rw [hy312];with_reducible exact H)|(have H2_:=(Option.bind_some _ _).symm.trans H;rw [hy312];with_reducible exact H2_)|(have H2_:=(Option.bind_some _ _).symm.trans H;with_reducible exact H2_)|with_reducible exact H|(rw [hy312];exact H)|exact H
 have Ny312:=Aside0.mk hy312
 clear hy312
 have H':=Aside0.mk H
 clear H
 go_wp2_with (first|((with_reducible refine gate_callee (f:=30) rfl ?_);refine goesL_ (some 24) rfl rfl Try.func30 (by kernel_rfl) rfl #[.slice A0 l0.length c0,.int .i64 x8_1] rfl z2_2 ?_;(with_reducible refine(r03_Get.calls k1 _ _ l0 x8_1 t311 _ ?side1 ?side2 A10.out).mono ?_);(case side1=>repeat(first|exact(Kd.C_below HR0.out HB.out)|(with_reducible refine Kd.C_alloc ?_ _)|(with_reducible refine Kd.C_drewN ?_ _)|(with_reducible refine Kd.C_drew ?_)));(case side2=>exact HC0.out);rintro e w' ⟨rfl,⟨nd,rfl⟩⟩;refine ⟨_,rfl,?_⟩)|((with_reducible refine gate_builtin (b:=.append) (xs:=#[.tmp 21,.tmp 25]) rfl ?_);at_builtin;refine Kd.R_append (Kd.int .i64) (w0:=w) w.heap.size rfl (.tmp 21) (.tmp 25) 23 3 (.int .i64 0) 8 rfl Try.underlying23 info3 rfl (by decide) (by omega) u7 x7_1 t311 [.int .i64 t311] (λ_=>True) (λ_=>False) rfl rfl ?aP (λ_ hk=>hk.elim) ?aF ?aO ?aB ?aS ?aL ?_;(case aP=>exact rfl);(case aB=>exact z1_1);(case aF=>exact(λ_ _=>trivial));(case aO=>exact z8_1);(case aS=>exact(below_size z1_1));(case aL=>have:=LMc11.out;omega);intro v313 w12 ho hb hg hat;rw [<-Ny312.out] at ho;replace HB:=U (hb);have HO314:=U (ho);clear HO_7;clear ho hb hg hat))
 go_roundg k1
 case measure=>have:=HK1.out;omega
 case rel=>exact ⟨(y312),(wrap64 (x8_1+1)),(by first|rfl|(simp;done)|(simp [*];done)),H',⟨(by have:=HK1.out;omega)⟩,⟨(by(with_reducible repeat(first|apply Kd.R_alloc|apply Kd.R_drewN|apply Kd.R_drew));exact HO314.out)⟩,⟨z1_1⟩⟩
end Go.Proofs.Ytjpjdipdhakjnaa.PStab
