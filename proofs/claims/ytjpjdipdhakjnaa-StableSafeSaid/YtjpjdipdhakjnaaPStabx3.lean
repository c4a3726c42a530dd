/- a part -/
import Derived.Test.YtjpjdipdhakjnaaPStabx2
namespace Go.Proofs.Ytjpjdipdhakjnaa.PStab
open Go.RowKit Go.Proofs.YtjpjdipdhakjnaaW.PrintWords Go.Proofs.YtjpjdipdhakjnaaW.PrintLast Go.Proofs.YtjpjdipdhakjnaaW.PrintMore
attribute [local go_sem] max2_int min2_int max_two min_two max_three min_three max_four min_four
set_option linter.unusedVariables false
set_option linter.unusedSimpArgs false
set_option maxHeartbeats 8000000
set_option maxRecDepth 100000
theorem z3_3 {P:Prop} (h:P:=by(with_reducible repeat(first|apply Kd.R_alloc|apply Kd.R_drewN|apply Kd.R_drew));exact HO_3.out):P:=h
theorem z3_4 {P:Prop} (h:P:=by repeat(first|exact(Kd.C_below HR1.out z1_1)|(with_reducible refine Kd.C_alloc ?_ _)|(with_reducible refine Kd.C_drewN ?_ _)|(with_reducible refine Kd.C_drew ?_))):P:=h
mutual
def r03_Plain.l0:Nat->List Int->List Int->Int->Option (List Int)
 | 0,_,_,_=>none
 | k+1,x0,x3,x4=>if x4<=5 then((r03_Get.f k x0 x4).bind λt184=>(if t184 > 0 then(r03_Plain.l1 k x0 x3 x4) else(r03_Plain.l0 k x0 x3 (wrap64 (x4+1))))) else(some x3)
def r03_Plain.l1:Nat->List Int->List Int->Int->Option (List Int)
 | 0,_,_,_=>none
 | k+1,x0,x3,x4=>if (x3.length:Int)<(wrap64 (x4 - 1)) then(if x3.length<17592186044416 then(r03_Plain.l1 k x0 (x3++[0]) x4) else(none)) else((r03_Get.f k x0 x4).bind λt188=>(if x3.length<17592186044416 then(r03_Plain.l0 k x0 (x3++[t188]) (wrap64 (x4+1))) else(none)))
end
def r03_Plain.f (k:Nat) (l0:List Int):Option (List Int):=r03_Plain.l0 k l0 (([]:List Int)) 1
theorem r03_Plain.calls (k:Nat) (A0:Option Addr) (c0:Nat) (l0:List Int) (r:List Int) (w:World) (hr0:Kd.C (Kd.int .i64) w A0 l0.length l0) (hc0:l0.length<=c0) (h:r03_Plain.f k l0=some r) :
  Calls Try.prog 28 #[.slice A0 l0.length c0] w λe w'=>∃ v0_:Value,e = .returned (v0_)/\Kd.R (Kd.int .i64) 3 w' w.heap.size (λ_=>True) v0_ r/\Below w.heap.size w w':=by
 have HR0:=Aside0.mk hr0
 have HC0:=Aside0.mk hc0
 clear hr0 hc0
 have HB:=U (Below.refl w.heap.size w)
 have H:(r03_Plain.l0 k l0 (([]:List Int)) 1)=some r:=h
 clear h
 obtain ⟨y181,hy181⟩:∃ y_:List Int,y_=(([]:List Int)):=⟨_,rfl⟩
 replace H:(r03_Plain.l0 k l0 y181 1)=some r:=by first|(rw [hy181];with_reducible exact H)|(have H2_:=(Option.bind_some _ _).symm.trans H;rw [hy181];with_reducible exact H2_)|(have H2_:=(Option.bind_some _ _).symm.trans H;with_reducible exact H2_)|with_reducible exact H|(rw [hy181];exact H)|exact H
 have Ny181:=Aside0.mk hy181
 clear hy181
 have H':=Aside0.mk H
 clear H
 go_enter Try.func28,Try.ntmps28
 go_wp2_with (first|((with_reducible refine gate_dst (N:=5) rfl ?_);refine Kd.R_lit (Kd.int .i64) _ 3 ?hg (N:=5) ?hd (xs:=([]:List Int)) (inner:=[]) (ok:=λ_=>True) (okp:=λ_=>True) ?hr ?hp (λ_ hk=>hk) trivial (Below.refl _ _) (Nat.le_refl _) (by simp) ?_;(case hd=>rfl);(case hg=>rfl);(case hr=>first|(go_simp;done)|(go_simp;rfl));(case hp=>exact(Reps.none _ _));intro v182 w2 ho3 hb hg_ hnew_;clear hg_ hnew_;(first|rw [<-Ny181.out] at ho3|(simp only [Int.reduceToNat] at ho3;rw [<-Ny181.out] at ho3));have HO183:=U (Kd.R_lower ho3 (below_size z1_1));replace HB:=U (below_step z1_1 hb);clear hb ho3))
 go_loopg [3,4] k (λkq v3 v4 w'=>∃ (x3_1:List Int) (x4_1:Int),v4 = .int .i64 x4_1/\Aside0 (r03_Plain.l0 kq l0 x3_1 x4_1=some r)/\Aside0 (kq<=k)/\Aside0 (Kd.R (Kd.int .i64) 3 w' w.heap.size (λ_=>True) v3 x3_1)/\Aside0 (Below w.heap.size w w'))
 case atStart=>exact ⟨(y181),(1),z1_3,H',⟨Nat.le_refl _⟩,⟨(by(with_reducible repeat(first|apply Kd.R_alloc|apply Kd.R_drewN|apply Kd.R_drew));exact HO183.out)⟩,⟨z1_1⟩⟩
 case round =>
 clear H'
 try clear c2
 try clear p2
 obtain ⟨x3_1,x4_1,rfl,HA,HK1,HO_3,HB⟩:=hrel
 cases gk with
 | zero=>exact absurd HA.out (by simp [r03_Plain.l0])
 | succ k1 =>
 have H:=HA.out
 clear HA
 simp only [r03_Plain.l0] at H
 by_cases c4:x4_1<=5
 rotate_left
 ·rw [if_neg c4] at H
  have c4b0:decide (x4_1<=5)=false:=dF_ c4
  clear c4
  obtain rfl:=sI_ H
  go_wp2
  go_ret
  exact ⟨_,(by first|rfl|(simp [errW_none,errW_some]<;>rfl)|(simp [*,errW_none,errW_some]<;>rfl)),z3_3,z1_1⟩
 rw [if_pos c4] at H
 have c4b0:decide (x4_1<=5)=true:=dT_ c4
 clear c4
 replace H:=oB_ H
 obtain ⟨t184,A50,H⟩:=H
 replace H:(if t184 > 0 then(r03_Plain.l1 k1 l0 x3_1 x4_1) else(r03_Plain.l0 k1 l0 x3_1 (wrap64 (x4_1+1))))=some r:=H
 have A5:=Aside0.mk A50
 clear A50
 by_cases c6:t184 > 0
 rotate_left
 ·rw [if_neg c6] at H
  have c6b0:decide (0<t184)=false:=dF_ c6
  clear c6
  have H':=Aside0.mk H
  clear H
  go_wp2_with (first|((with_reducible refine gate_callee (f:=30) rfl ?_);refine goesL_ (some 12) rfl rfl Try.func30 (by kernel_rfl) rfl #[.slice A0 l0.length c0,.int .i64 x4_1] rfl z2_2 ?_;(with_reducible refine(r03_Get.calls k1 _ _ l0 x4_1 t184 _ ?side1 ?side2 A5.out).mono ?_);(case side1=>exact z2_16);(case side2=>exact HC0.out);rintro e w' ⟨rfl,⟨nd,rfl⟩⟩;refine ⟨_,rfl,?_⟩))
  go_roundg k1
  case measure=>have:=HK1.out;omega
  case rel=>exact ⟨(x3_1),(wrap64 (x4_1+1)),z1_3,H',⟨(by have:=HK1.out;omega)⟩,⟨z3_3⟩,⟨z1_1⟩⟩
 rw [if_pos c6] at H
 have c6b0:decide (0<t184)=true:=dT_ c6
 clear c6
 have H':=Aside0.mk H
 clear H
 go_wp2_with (first|((with_reducible refine gate_callee (f:=30) rfl ?_);refine goesL_ (some 12) rfl rfl Try.func30 (by kernel_rfl) rfl #[.slice A0 l0.length c0,.int .i64 x4_1] rfl z2_2 ?_;(with_reducible refine(r03_Get.calls k1 _ _ l0 x4_1 t184 _ ?side1 ?side2 A5.out).mono ?_);(case side1=>exact z2_16);(case side2=>exact HC0.out);rintro e w' ⟨rfl,⟨nd,rfl⟩⟩;refine ⟨_,rfl,?_⟩))
 go_loopg [3] k1 (λkq v3 w'=>∃ (x3_2:List Int),Aside0 (r03_Plain.l1 kq l0 x3_2 x4_1=some r)/\Aside0 (kq<=k1)/\Aside0 (Kd.R (Kd.int .i64) 3 w' w.heap.size (λ_=>True) v3 x3_2)/\Aside0 (Below w.heap.size w w'))
 case atStart=>exact ⟨(x3_1),H',⟨Nat.le_refl _⟩,⟨z3_3⟩,⟨z1_1⟩⟩
 case round =>
 clear H'
 try clear c2
 try clear p2
 try clear c3
 try clear c4
 try clear c4b0
 try clear c6
 try clear c6b0
 try clear p6
 try clear p2
 obtain ⟨x3_2,HA,HK2,HO_3,HB⟩:=hrel
 cases gk with
 | zero=>exact absurd HA.out (by simp [r03_Plain.l1])
 | succ k2 =>
 have H:=HA.out
 clear HA
 simp only [r03_Plain.l1] at H
 by_cases c7:(x3_2.length:Int)<(wrap64 (x4_1 - 1))
 ·rw [if_pos c7] at H
  have c7b0:decide ((x3_2.length:Int)<(wrap64 (x4_1 - 1)))=true:=dT_ c7
  clear c7
  by_cases c8:x3_2.length<17592186044416
  rotate_left
  ·rw [if_neg c8] at H
   exact absurd H (by simp)
  rw [if_pos c8] at H
  have LMc8:=Aside0.mk c8
  clear c8
  obtain ⟨y185,hy185⟩:∃ y_:List Int,y_=(x3_2++[0]):=⟨_,rfl⟩
  replace H:(r03_Plain.l1 k2 l0 y185 x4_1)=some r:=by first|(rw [hy185];with_reducible exact H)|(have H2_:=(Option.bind_some _ _).symm.trans H;rw [hy185];with_reducible exact H2_)|(have H2_:=(Option.bind_some _ _).symm.trans H;with_reducible exact H2_)|with_reducible exact H|(rw [hy185];exact H)|exact H
  have Ny185:=Aside0.mk hy185
  clear hy185
  have H':=Aside0.mk H
  clear H
  obtain ⟨Ao9,co9,eo9⟩:=Kd.R_slice HO_3.out
  subst eo9
  go_wp2_with (first|((with_reducible refine gate_builtin (b:=.append) (xs:=#[.tmp 19,.tmp 20]) rfl ?_);at_builtin;refine Kd.R_append (Kd.int .i64) (w0:=w) w.heap.size rfl (.tmp 19) (.tmp 20) 23 3 (.int .i64 0) 8 rfl Try.underlying23 info3 rfl (by decide) (by omega) (.slice Ao9 x3_2.length co9) x3_2 0 [.int .i64 0] (λ_=>True) (λ_=>False) rfl rfl ?aP (λ_ hk=>hk.elim) ?aF ?aO ?aB ?aS ?aL ?_;(case aP=>exact rfl);(case aB=>exact z1_1);(case aF=>exact(λ_ _=>trivial));(case aO=>exact z3_3);(case aS=>exact(below_size z1_1));(case aL=>have:=LMc8.out;omega);intro v186 w10 ho hb hg hat;rw [<-Ny185.out] at ho;replace HB:=U (hb);have HO187:=U (ho);clear HO_3;clear ho hb hg hat))
  go_roundg k2
  case measure=>have:=HK1.out;have:=HK2.out;omega
  case rel=>exact ⟨(y185),H',⟨(by have:=HK1.out;have:=HK2.out;omega)⟩,⟨(by(with_reducible repeat(first|apply Kd.R_alloc|apply Kd.R_drewN|apply Kd.R_drew));exact HO187.out)⟩,⟨z1_1⟩⟩
 rw [if_neg c7] at H
 have c7b0:decide ((x3_2.length:Int)<(wrap64 (x4_1 - 1)))=false:=dF_ c7
 clear c7
 replace H:=oB_ H
 obtain ⟨t188,A110,H⟩:=H
 replace H:(if x3_2.length<17592186044416 then(r03_Plain.l0 k2 l0 (x3_2++[t188]) (wrap64 (x4_1+1))) else(none))=some r:=H
 have A11:=Aside0.mk A110
 clear A110
 by_cases c12:x3_2.length<17592186044416
 rotate_left
 ·rw [if_neg c12] at H
  exact absurd H (by simp)
 rw [if_pos c12] at H
 have LMc12:=Aside0.mk c12
 clear c12
 obtain ⟨y189,hy189⟩:∃ y_:List Int,y_=(x3_2++[t188]):=⟨_,rfl⟩
 replace H:(r03_Plain.l0 k2 l0 y189 (wrap64 (x4_1+1)))=some r:=by first|(rw [hy189];with_reducible exact H)|(have H2_:=(Option.bind_some _ _).symm.trans H;rw [hy189];with_reducible exact H2_)|(have H2_:=(Option.bind_some _ _).symm.trans H;with_reducible exact H2_)|with_reducible exact H|(rw [hy189];exact H)|exact H
 have Ny189:=Aside0.mk hy189
 clear hy189
 have H':=Aside0.mk H
 clear H
 obtain ⟨Ao13,co13,eo13⟩:=Kd.R_slice HO_3.out
 subst eo13
 go_wp2_with (first|((with_reducible refine gate_callee (f:=30) rfl ?_);refine goesL_ (some 25) rfl rfl Try.func30 (by kernel_rfl) rfl #[.slice A0 l0.length c0,.int .i64 x4_1] rfl z2_2 ?_;(with_reducible refine(r03_Get.calls k2 _ _ l0 x4_1 t188 _ ?side1 ?side2 A11.out).mono ?_);(case side1=>exact z2_16);(case side2=>exact HC0.out);rintro e w' ⟨rfl,⟨nd,rfl⟩⟩;refine ⟨_,rfl,?_⟩)|((with_reducible refine gate_builtin (b:=.append) (xs:=#[.tmp 22,.tmp 26]) rfl ?_);at_builtin;refine Kd.R_append (Kd.int .i64) (w0:=w) w.heap.size rfl (.tmp 22) (.tmp 26) 23 3 (.int .i64 0) 8 rfl Try.underlying23 info3 rfl (by decide) (by omega) (.slice Ao13 x3_2.length co13) x3_2 t188 [.int .i64 t188] (λ_=>True) (λ_=>False) rfl rfl ?aP (λ_ hk=>hk.elim) ?aF ?aO ?aB ?aS ?aL ?_;(case aP=>exact rfl);(case aB=>exact z1_1);(case aF=>exact(λ_ _=>trivial));(case aO=>exact z3_3);(case aS=>exact(below_size z1_1));(case aL=>have:=LMc12.out;omega);intro v190 w14 ho hb hg hat;rw [<-Ny189.out] at ho;replace HB:=U (hb);have HO191:=U (ho);clear HO_3;clear ho hb hg hat))
 go_roundg k2
 case measure=>have:=HK1.out;have:=HK2.out;omega
 case rel=>exact ⟨(y189),(wrap64 (x4_1+1)),z1_3,H',⟨(by have:=HK1.out;have:=HK2.out;omega)⟩,⟨(by(with_reducible repeat(first|apply Kd.R_alloc|apply Kd.R_drewN|apply Kd.R_drew));exact HO191.out)⟩,⟨z1_1⟩⟩
def r03_Join.l0:Nat->List Int->List Int->List Int->Int->Option (List Int)
 | 0,_,_,_,_=>none
 | k+1,x0,x1,x5,x6=>if x6<=5 then((r03_Get.f k x0 x6).bind λt215=>((r03_Get.f k x1 x6).bind λt216=>(if t215 > t216 then((r03_Get.f k x0 x6).bind λt217=>(if x5.length<17592186044416 then(r03_Join.l0 k x0 x1 (x5++[t217]) (wrap64 (x6+1))) else(none))) else((r03_Get.f k x1 x6).bind λt221=>(if x5.length<17592186044416 then(r03_Join.l0 k x0 x1 (x5++[t221]) (wrap64 (x6+1))) else(none)))))) else((r03_Plain.f k x5).bind λt212=>(some t212))
def r03_Join.f (k:Nat) (l0:List Int) (l1:List Int):Option (List Int):=r03_Join.l0 k l0 l1 (([]:List Int)) 1
theorem r03_Join.calls (k:Nat) (A0:Option Addr) (c0:Nat) (l0:List Int) (A1:Option Addr) (c1:Nat) (l1:List Int) (r:List Int) (w:World) (hr0:Kd.C (Kd.int .i64) w A0 l0.length l0) (hc0:l0.length<=c0) (hr1:Kd.C (Kd.int .i64) w A1 l1.length l1) (hc1:l1.length<=c1) (h:r03_Join.f k l0 l1=some r) :
  Calls Try.prog 17 #[.slice A0 l0.length c0,.slice A1 l1.length c1] w λe w'=>∃ v0_:Value,e = .returned (v0_)/\Kd.R (Kd.int .i64) 3 w' w.heap.size (λ_=>True) v0_ r/\Below w.heap.size w w':=by
 have HR0:=Aside0.mk hr0
 have HC0:=Aside0.mk hc0
 clear hr0 hc0
 have HR1:=Aside0.mk hr1
 have HC1:=Aside0.mk hc1
 clear hr1 hc1
 have HB:=U (Below.refl w.heap.size w)
 have H:(r03_Join.l0 k l0 l1 (([]:List Int)) 1)=some r:=h
 clear h
 obtain ⟨y209,hy209⟩:∃ y_:List Int,y_=(([]:List Int)):=⟨_,rfl⟩
 replace H:(r03_Join.l0 k l0 l1 y209 1)=some r:=by first|(rw [hy209];with_reducible exact H)|(have H2_:=(Option.bind_some _ _).symm.trans H;rw [hy209];with_reducible exact H2_)|(have H2_:=(Option.bind_some _ _).symm.trans H;with_reducible exact H2_)|with_reducible exact H|(rw [hy209];exact H)|exact H
 have Ny209:=Aside0.mk hy209
 clear hy209
 have H':=Aside0.mk H
 clear H
 go_enter Try.func17,Try.ntmps17
 go_wp2_with (first|((with_reducible refine gate_dst (N:=7) rfl ?_);refine Kd.R_lit (Kd.int .i64) _ 3 ?hg (N:=7) ?hd (xs:=([]:List Int)) (inner:=[]) (ok:=λ_=>True) (okp:=λ_=>True) ?hr ?hp (λ_ hk=>hk) trivial (Below.refl _ _) (Nat.le_refl _) (by simp) ?_;(case hd=>rfl);(case hg=>rfl);(case hr=>first|(go_simp;done)|(go_simp;rfl));(case hp=>exact(Reps.none _ _));intro v210 w3 ho4 hb hg_ hnew_;clear hg_ hnew_;(first|rw [<-Ny209.out] at ho4|(simp only [Int.reduceToNat] at ho4;rw [<-Ny209.out] at ho4));have HO211:=U (Kd.R_lower ho4 (below_size z1_1));replace HB:=U (below_step z1_1 hb);clear hb ho4))
 go_loopg [5,6] k (λkq v5 v6 w'=>∃ (x5_1:List Int) (x6_1:Int),v6 = .int .i64 x6_1/\Aside0 (r03_Join.l0 kq l0 l1 x5_1 x6_1=some r)/\Aside0 (kq<=k)/\Aside0 (Kd.R (Kd.int .i64) 3 w' w.heap.size (λ_=>True) v5 x5_1)/\Aside0 (Below w.heap.size w w'))
 case atStart=>exact ⟨(y209),(1),z1_3,H',⟨Nat.le_refl _⟩,⟨(by(with_reducible repeat(first|apply Kd.R_alloc|apply Kd.R_drewN|apply Kd.R_drew));exact HO211.out)⟩,⟨z1_1⟩⟩
 case round =>
 clear H'
 try clear c1
 try clear p2
 obtain ⟨x5_1,x6_1,rfl,HA,HK1,HO_5,HB⟩:=hrel
 cases gk with
 | zero=>exact absurd HA.out (by simp [r03_Join.l0])
 | succ k1 =>
 have H:=HA.out
 clear HA
 simp only [r03_Join.l0] at H
 by_cases c5:x6_1<=5
 rotate_left
 ·rw [if_neg c5] at H
  have c5b0:decide (x6_1<=5)=false:=dF_ c5
  clear c5
  replace H:=oB_ H
  obtain ⟨t212,A150,H⟩:=H
  replace H:(some t212)=some r:=H
  have A15:=Aside0.mk A150
  clear A150
  obtain rfl:=sI_ H
  obtain ⟨Ao16,co16,eo16⟩:=Kd.R_slice HO_5.out
  subst eo16
  go_wp2_with (first|((with_reducible refine gate_callee (f:=28) rfl ?_);refine goesL_ (some 32) rfl rfl Try.func28 (by kernel_rfl) rfl #[.slice Ao16 x5_1.length co16] rfl z2_2 ?_;(with_reducible refine(r03_Plain.calls k1 _ _ x5_1 t212 _ ?side1 ?side2 A15.out).mono ?_);(case side1=>repeat(first|exact(Kd.R_reads' HO_5.out).2.2|(with_reducible refine Kd.C_alloc ?_ _)|(with_reducible refine Kd.C_drewN ?_ _)|(with_reducible refine Kd.C_drew ?_)));(case side2=>exact(Kd.R_reads' HO_5.out).2.1);rintro e w17 ⟨v213,rfl,ho0,hb⟩;refine ⟨_,rfl,?_⟩;have HO214:=U (Kd.R_lower (Kd.R_new' ho0 (Kd.R_lt z2_29)) (below_size z1_1));replace HO_5:=U (Kd.R_elder' z2_29 (Kd.R_base ho0) hb);replace HB:=U (below_step z1_1 hb);(try clear hb);(try clear hb2);(try clear hk);(try clear hi);(try clear ho0)))
  go_ret
  exact ⟨_,(by first|rfl|(simp [errW_none,errW_some]<;>rfl)|(simp [*,errW_none,errW_some]<;>rfl)),(by(with_reducible repeat(first|apply Kd.R_alloc|apply Kd.R_drewN|apply Kd.R_drew));exact Kd.R_mono HO214.out (λ_ hk=>trivial)),z1_1⟩
 rw [if_pos c5] at H
 have c5b0:decide (x6_1<=5)=true:=dT_ c5
 clear c5
 replace H:=oB_ H
 obtain ⟨t215,A60,H⟩:=H
 replace H:((r03_Get.f k1 l1 x6_1).bind λt216=>(if t215 > t216 then((r03_Get.f k1 l0 x6_1).bind λt217=>(if x5_1.length<17592186044416 then(r03_Join.l0 k1 l0 l1 (x5_1++[t217]) (wrap64 (x6_1+1))) else(none))) else((r03_Get.f k1 l1 x6_1).bind λt221=>(if x5_1.length<17592186044416 then(r03_Join.l0 k1 l0 l1 (x5_1++[t221]) (wrap64 (x6_1+1))) else(none)))))=some r:=H
 have A6:=Aside0.mk A60
 clear A60
 replace H:=oB_ H
 obtain ⟨t216,A70,H⟩:=H
 replace H:(if t215 > t216 then((r03_Get.f k1 l0 x6_1).bind λt217=>(if x5_1.length<17592186044416 then(r03_Join.l0 k1 l0 l1 (x5_1++[t217]) (wrap64 (x6_1+1))) else(none))) else((r03_Get.f k1 l1 x6_1).bind λt221=>(if x5_1.length<17592186044416 then(r03_Join.l0 k1 l0 l1 (x5_1++[t221]) (wrap64 (x6_1+1))) else(none))))=some r:=H
 have A7:=Aside0.mk A70
 clear A70
 by_cases c8:t215 > t216
 ·rw [if_pos c8] at H
  have c8b0:decide (t216<t215)=true:=dT_ c8
  clear c8
  replace H:=oB_ H
  obtain ⟨t217,A90,H⟩:=H
  replace H:(if x5_1.length<17592186044416 then(r03_Join.l0 k1 l0 l1 (x5_1++[t217]) (wrap64 (x6_1+1))) else(none))=some r:=H
  have A9:=Aside0.mk A90
  clear A90
  by_cases c10:x5_1.length<17592186044416
  rotate_left
  ·rw [if_neg c10] at H
   exact absurd H (by simp)
  rw [if_pos c10] at H
  have LMc10:=Aside0.mk c10
  clear c10
  obtain ⟨y218,hy218⟩:∃ y_:List Int,y_=(x5_1++[t217]):=⟨_,rfl⟩
  replace H:(r03_Join.l0 k1 l0 l1 y218 (wrap64 (x6_1+1)))=some r:=by first|(rw [hy218];with_reducible exact H)|(have H2_:=(Option.bind_some _ _).symm.trans H;rw [hy218];with_reducible exact H2_)|(have H2_:=(Option.bind_some _ _).symm.trans H;with_reducible exact H2_)|with_reducible exact H|(rw [hy218];exact H)|exact H
  have Ny218:=Aside0.mk hy218
  clear hy218
  have H':=Aside0.mk H
  clear H
  go_wp2_with (first|((with_reducible refine gate_callee (f:=30) rfl ?_);refine goesL_ (some 14) rfl rfl Try.func30 (by kernel_rfl) rfl #[.slice A0 l0.length c0,.int .i64 x6_1] rfl z2_2 ?_;(with_reducible refine(r03_Get.calls k1 _ _ l0 x6_1 t215 _ ?side1 ?side2 A6.out).mono ?_);(case side1=>exact z2_16);(case side2=>exact HC0.out);rintro e w' ⟨rfl,⟨nd,rfl⟩⟩;refine ⟨_,rfl,?_⟩)|((with_reducible refine gate_callee (f:=30) rfl ?_);refine goesL_ (some 17) rfl rfl Try.func30 (by kernel_rfl) rfl #[.slice A1 l1.length c1,.int .i64 x6_1] rfl z2_2 ?_;(with_reducible refine(r03_Get.calls k1 _ _ l1 x6_1 t216 _ ?side1 ?side2 A7.out).mono ?_);(case side1=>exact z3_4);(case side2=>exact HC1.out);rintro e w' ⟨rfl,⟨nd,rfl⟩⟩;refine ⟨_,rfl,?_⟩)|((with_reducible refine gate_callee (f:=30) rfl ?_);refine goesL_ (some 22) rfl rfl Try.func30 (by kernel_rfl) rfl #[.slice A0 l0.length c0,.int .i64 x6_1] rfl z2_2 ?_;(with_reducible refine(r03_Get.calls k1 _ _ l0 x6_1 t217 _ ?side1 ?side2 A9.out).mono ?_);(case side1=>repeat(first|exact(Kd.C_below HR0.out z1_1)|(with_reducible refine Kd.C_alloc ?_ _)|(with_reducible refine Kd.C_drewN ?_ _)|(with_reducible refine Kd.C_drew ?_)));(case side2=>exact HC0.out);rintro e w' ⟨rfl,⟨nd,rfl⟩⟩;refine ⟨_,rfl,?_⟩)|((with_reducible refine gate_builtin (b:=.append) (xs:=#[.tmp 19,.tmp 23]) rfl ?_);at_builtin;refine Kd.R_append (Kd.int .i64) (w0:=w) w.heap.size rfl (.tmp 19) (.tmp 23) 23 3 (.int .i64 0) 8 rfl Try.underlying23 info3 rfl (by decide) (by omega) u5 x5_1 t217 [.int .i64 t217] (λ_=>True) (λ_=>False) rfl rfl ?aP (λ_ hk=>hk.elim) ?aF ?aO ?aB ?aS ?aL ?_;(case aP=>exact rfl);(case aB=>exact z1_1);(case aF=>exact(λ_ _=>trivial));(case aO=>exact z2_29);(case aS=>exact(below_size z1_1));(case aL=>have:=LMc10.out;omega);intro v219 w11 ho hb hg hat;rw [<-Ny218.out] at ho;replace HB:=U (hb);have HO220:=U (ho);clear HO_5;clear ho hb hg hat))
  go_roundg k1
  case measure=>have:=HK1.out;omega
  case rel=>exact ⟨(y218),(wrap64 (x6_1+1)),z1_3,H',⟨(by have:=HK1.out;omega)⟩,⟨(by(with_reducible repeat(first|apply Kd.R_alloc|apply Kd.R_drewN|apply Kd.R_drew));exact HO220.out)⟩,⟨z1_1⟩⟩
 rw [if_neg c8] at H
 have c8b0:decide (t216<t215)=false:=dF_ c8
 clear c8
 replace H:=oB_ H
 obtain ⟨t221,A120,H⟩:=H
 replace H:(if x5_1.length<17592186044416 then(r03_Join.l0 k1 l0 l1 (x5_1++[t221]) (wrap64 (x6_1+1))) else(none))=some r:=H
 have A12:=Aside0.mk A120
 clear A120
 by_cases c13:x5_1.length<17592186044416
 rotate_left
 ·rw [if_neg c13] at H
  exact absurd H (by simp)
 rw [if_pos c13] at H
 have LMc13:=Aside0.mk c13
 clear c13
 obtain ⟨y222,hy222⟩:∃ y_:List Int,y_=(x5_1++[t221]):=⟨_,rfl⟩
 replace H:(r03_Join.l0 k1 l0 l1 y222 (wrap64 (x6_1+1)))=some r:=by first|(rw [hy222];with_reducible exact H)|(have H2_:=(Option.bind_some _ _).symm.trans H;rw [hy222];with_reducible exact H2_)|(have H2_:=(Option.bind_some _ _).symm.trans H;with_reducible exact H2_)|with_reducible exact H|(rw [hy222];exact H)|exact H
 have Ny222:=Aside0.mk hy222
 clear hy222
 have H':=Aside0.mk H
 clear H
 go_wp2_with (first|((with_reducible refine gate_callee (f:=30) rfl ?_);refine goesL_ (some 14) rfl rfl Try.func30 (by kernel_rfl) rfl #[.slice A0 l0.length c0,.int .i64 x6_1] rfl z2_2 ?_;(with_reducible refine(r03_Get.calls k1 _ _ l0 x6_1 t215 _ ?side1 ?side2 A6.out).mono ?_);(case side1=>exact z2_16);(case side2=>exact HC0.out);rintro e w' ⟨rfl,⟨nd,rfl⟩⟩;refine ⟨_,rfl,?_⟩)|((with_reducible refine gate_callee (f:=30) rfl ?_);refine goesL_ (some 17) rfl rfl Try.func30 (by kernel_rfl) rfl #[.slice A1 l1.length c1,.int .i64 x6_1] rfl z2_2 ?_;(with_reducible refine(r03_Get.calls k1 _ _ l1 x6_1 t216 _ ?side1 ?side2 A7.out).mono ?_);(case side1=>exact z3_4);(case side2=>exact HC1.out);rintro e w' ⟨rfl,⟨nd,rfl⟩⟩;refine ⟨_,rfl,?_⟩)|((with_reducible refine gate_callee (f:=30) rfl ?_);refine goesL_ (some 28) rfl rfl Try.func30 (by kernel_rfl) rfl #[.slice A1 l1.length c1,.int .i64 x6_1] rfl z2_2 ?_;(with_reducible refine(r03_Get.calls k1 _ _ l1 x6_1 t221 _ ?side1 ?side2 A12.out).mono ?_);(case side1=>exact z3_4);(case side2=>exact HC1.out);rintro e w' ⟨rfl,⟨nd,rfl⟩⟩;refine ⟨_,rfl,?_⟩)|((with_reducible refine gate_builtin (b:=.append) (xs:=#[.tmp 25,.tmp 29]) rfl ?_);at_builtin;refine Kd.R_append (Kd.int .i64) (w0:=w) w.heap.size rfl (.tmp 25) (.tmp 29) 23 3 (.int .i64 0) 8 rfl Try.underlying23 info3 rfl (by decide) (by omega) u5 x5_1 t221 [.int .i64 t221] (λ_=>True) (λ_=>False) rfl rfl ?aP (λ_ hk=>hk.elim) ?aF ?aO ?aB ?aS ?aL ?_;(case aP=>exact rfl);(case aB=>exact z1_1);(case aF=>exact(λ_ _=>trivial));(case aO=>exact z2_29);(case aS=>exact(below_size z1_1));(case aL=>have:=LMc13.out;omega);intro v223 w14 ho hb hg hat;rw [<-Ny222.out] at ho;replace HB:=U (hb);have HO224:=U (ho);clear HO_5;clear ho hb hg hat))
 go_roundg k1
 case measure=>have:=HK1.out;omega
 case rel=>exact ⟨(y222),(wrap64 (x6_1+1)),z1_3,H',⟨(by have:=HK1.out;omega)⟩,⟨(by(with_reducible repeat(first|apply Kd.R_alloc|apply Kd.R_drewN|apply Kd.R_drew));exact HO224.out)⟩,⟨z1_1⟩⟩
end Go.Proofs.Ytjpjdipdhakjnaa.PStab
