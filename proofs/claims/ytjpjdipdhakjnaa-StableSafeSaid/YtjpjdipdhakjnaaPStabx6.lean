/- a part -/
import Derived.Test.YtjpjdipdhakjnaaPStabx2
namespace Go.Proofs.Ytjpjdipdhakjnaa.PStab
open Go.RowKit Go.Proofs.YtjpjdipdhakjnaaW.PrintWords Go.Proofs.YtjpjdipdhakjnaaW.PrintLast Go.Proofs.YtjpjdipdhakjnaaW.PrintMore
attribute [local go_sem] max2_int min2_int max_two min_two max_three min_three max_four min_four
set_option linter.unusedVariables false
set_option linter.unusedSimpArgs false
set_option maxHeartbeats 8000000
set_option maxRecDepth 100000
def r03_Within.l0:Nat->List Int->List Int->Int->Option (Bool)
 | 0,_,_,_=>none
 | k+1,x0,x1,x5=>if x5<=5 then((r03_Get.f k x0 x5).bind λt277=>((r03_Get.f k x1 x5).bind λt278=>(if t277 > t278 then(some false) else(r03_Within.l0 k x0 x1 (wrap64 (x5+1)))))) else(some true)
def r03_Within.f (k:Nat) (l0:List Int) (l1:List Int):Option (Bool):=r03_Within.l0 k l0 l1 1
theorem r03_Within.calls (k:Nat) (A0:Option Addr) (c0:Nat) (l0:List Int) (A1:Option Addr) (c1:Nat) (l1:List Int) (r:Bool) (w:World) (hr0:Kd.C (Kd.int .i64) w A0 l0.length l0) (hc0:l0.length<=c0) (hr1:Kd.C (Kd.int .i64) w A1 l1.length l1) (hc1:l1.length<=c1) (h:r03_Within.f k l0 l1=some r) :
  Calls Try.prog 19 #[.slice A0 l0.length c0,.slice A1 l1.length c1] w λe w'=>e = .returned (.bool r)/\Drawn0 w w':=by
 have HR0:=Aside0.mk hr0
 have HC0:=Aside0.mk hc0
 clear hr0 hc0
 have HR1:=Aside0.mk hr1
 have HC1:=Aside0.mk hc1
 clear hr1 hc1
 have H:(r03_Within.l0 k l0 l1 1)=some r:=h
 clear h
 have H':=Aside0.mk H
 clear H
 go_enter Try.func19,Try.ntmps19
 go_wp2
 go_loopg [5] k (λkq v5 w'=>∃ (x5_1:Int),v5 = .int .i64 x5_1/\Aside0 (r03_Within.l0 kq l0 l1 x5_1=some r)/\Aside0 (kq<=k)/\Drawn0 w w')
 case atStart=>exact ⟨(1),z1_3,H',⟨Nat.le_refl _⟩,z1_2⟩
 case round =>
 clear H'
 try clear c1
 try clear p2
 obtain ⟨x5_1,rfl,HA,HK1,⟨m1,rfl⟩⟩:=hrel
 cases gk with
 | zero=>exact absurd HA.out (by simp [r03_Within.l0])
 | succ k1 =>
 have H:=HA.out
 clear HA
 simp only [r03_Within.l0] at H
 by_cases c3:x5_1<=5
 rotate_left
 ·rw [if_neg c3] at H
  have c3b0:decide (x5_1<=5)=false:=dF_ c3
  clear c3
  obtain rfl:=sI_ H
  go_wp2
  go_ret
  exact ⟨z1_3,z1_2⟩
 rw [if_pos c3] at H
 have c3b0:decide (x5_1<=5)=true:=dT_ c3
 clear c3
 replace H:=oB_ H
 obtain ⟨t277,A40,H⟩:=H
 replace H:((r03_Get.f k1 l1 x5_1).bind λt278=>(if t277 > t278 then(some false) else(r03_Within.l0 k1 l0 l1 (wrap64 (x5_1+1)))))=some r:=H
 have A4:=Aside0.mk A40
 clear A40
 replace H:=oB_ H
 obtain ⟨t278,A50,H⟩:=H
 replace H:(if t277 > t278 then(some false) else(r03_Within.l0 k1 l0 l1 (wrap64 (x5_1+1))))=some r:=H
 have A5:=Aside0.mk A50
 clear A50
 by_cases c6:t277 > t278
 ·rw [if_pos c6] at H
  have c6b0:decide (t278<t277)=true:=dT_ c6
  clear c6
  obtain rfl:=sI_ H
  go_wp2_with (first|((with_reducible refine gate_callee (f:=30) rfl ?_);refine goesL_ (some 12) rfl rfl Try.func30 (by kernel_rfl) rfl #[.slice A0 l0.length c0,.int .i64 x5_1] rfl z2_2 ?_;(with_reducible refine(r03_Get.calls k1 _ _ l0 x5_1 t277 _ ?side1 ?side2 A4.out).mono ?_);(case side1=>exact z2_11);(case side2=>exact HC0.out);rintro e w' ⟨rfl,⟨nd,rfl⟩⟩;refine ⟨_,rfl,?_⟩)|((with_reducible refine gate_callee (f:=30) rfl ?_);refine goesL_ (some 15) rfl rfl Try.func30 (by kernel_rfl) rfl #[.slice A1 l1.length c1,.int .i64 x5_1] rfl z2_2 ?_;(with_reducible refine(r03_Get.calls k1 _ _ l1 x5_1 t278 _ ?side1 ?side2 A5.out).mono ?_);(case side1=>exact z2_25);(case side2=>exact HC1.out);rintro e w' ⟨rfl,⟨nd,rfl⟩⟩;refine ⟨_,rfl,?_⟩))
  go_ret
  exact ⟨z1_3,z1_2⟩
 rw [if_neg c6] at H
 have c6b0:decide (t278<t277)=false:=dF_ c6
 clear c6
 have H':=Aside0.mk H
 clear H
 go_wp2_with (first|((with_reducible refine gate_callee (f:=30) rfl ?_);refine goesL_ (some 12) rfl rfl Try.func30 (by kernel_rfl) rfl #[.slice A0 l0.length c0,.int .i64 x5_1] rfl z2_2 ?_;(with_reducible refine(r03_Get.calls k1 _ _ l0 x5_1 t277 _ ?side1 ?side2 A4.out).mono ?_);(case side1=>exact z2_11);(case side2=>exact HC0.out);rintro e w' ⟨rfl,⟨nd,rfl⟩⟩;refine ⟨_,rfl,?_⟩)|((with_reducible refine gate_callee (f:=30) rfl ?_);refine goesL_ (some 15) rfl rfl Try.func30 (by kernel_rfl) rfl #[.slice A1 l1.length c1,.int .i64 x5_1] rfl z2_2 ?_;(with_reducible refine(r03_Get.calls k1 _ _ l1 x5_1 t278 _ ?side1 ?side2 A5.out).mono ?_);(case side1=>exact z2_25);(case side2=>exact HC1.out);rintro e w' ⟨rfl,⟨nd,rfl⟩⟩;refine ⟨_,rfl,?_⟩))
 go_roundg k1
 case measure=>have:=HK1.out;omega
 case rel=>exact ⟨(wrap64 (x5_1+1)),z1_3,H',⟨(by have:=HK1.out;omega)⟩,z1_2⟩
end Go.Proofs.Ytjpjdipdhakjnaa.PStab
